/- Rows of terms: merged,sorted,cleaned;what a polynomial's number of a product is. Plain. -/
import Derived.Test.YtbkopgdpcijfbaaGreatDoorZ12
import Derived.Test.YtbkopgdpcijfbaaGreatDoorZ7
set_option linter.all false
set_option maxRecDepth 100000
set_option maxHeartbeats 16000000
namespace Go.Proofs.YtbkopgdpcijfbaaGreatDoor
def Ea (a:List UInt8):Op.bytesLess a a=false:=by
 induction a with
 |nil=>rfl
 |cons x a ih=>simp[Op.bytesLess,ih]
def Mw {a b c:List UInt8}(h:Op.bytesLess a b=true)(k:Op.bytesLess b c=true):Op.bytesLess a c=true:=by
 induction a generalizing b c with
 | nil=>
   cases c with
   |nil=>cases b<;>simp[Op.bytesLess]at k
   |cons z c=>simp[Op.bytesLess]
 | cons x a ih=>
   cases b with
   |nil=>simp[Op.bytesLess]at h
   | cons y b=>
     cases c with
     |nil=>simp[Op.bytesLess]at k
     | cons z c=>
       simp only[Op.bytesLess,Bool.or_eq_true,Bool.and_eq_true,decide_eq_true_eq,beq_iff_eq]at h k⊢;rcases h with h|⟨rfl,h⟩
       . rcases k with k|⟨rfl,k⟩
         . exact .inl (UInt8.lt_trans h k)
         . exact .inl h
       . rcases k with k|⟨rfl,k⟩
         . exact .inl k
         . exact .inr ⟨rfl,ih h k⟩
def Im {a b:List UInt8}(h:Op.bytesLess a b=false)(k:Op.bytesLess b a=false):a=b:=by
 induction a generalizing b with
 | nil=>cases b with
   |nil=>rfl
   |cons y b=>simp[Op.bytesLess]at h
 | cons x a ih=>cases b with
   |nil=>simp[Op.bytesLess]at k
   | cons y b=>
     simp only[Op.bytesLess,Bool.or_eq_false_iff,Bool.and_eq_false_iff,decide_eq_false_iff_not,beq_eq_false_iff_ne]at h k;have e:x=y:=by have h1:=UInt8.not_lt.1 h.1;have h2:=UInt8.not_lt.1 k.1;exact UInt8.le_antisymm h2 h1
     subst e;rw[ih (by rcases h.2 with h|h;exact absurd rfl h;exact h) (by rcases k.2 with h|h;exact absurd rfl h;exact h)]
def PH (x y:Trm):Trm:=(x.1,canon (au x.2+au y.2))
def AJ :Nat->List Trm->List Trm->List Trm
 |0,a,b=>a++b
 |_+1,[],b=>b
 |_+1,x::a,[]=>x::a
 |k+1,x::a,y::b=>if Op.bytesLess x.1 y.1 then x::AJ k a (y::b)else if Op.bytesLess y.1 x.1 then y::AJ k (x::a) b else PH x y::AJ k a b
def WK (a b:List Trm)(j k:Nat)(hj:a.length+b.length<=j)(hk:a.length+b.length<=k):AJ j a b=AJ k a b:=by
 induction j generalizing k a b with
 |zero=>have ha:a=[]:=List.length_eq_zero_iff.1 zo;have hb:b=[]:=List.length_eq_zero_iff.1 zo;subst ha;subst hb;cases k<;>rfl
 | succ j ih=>
   cases k with
   |zero=>have ha:a=[]:=List.length_eq_zero_iff.1 zo;have hb:b=[]:=List.length_eq_zero_iff.1 zo;subst ha;subst hb;rfl
   | succ k=>
     cases a with
     |nil=>rfl
     | cons x a=>cases b with
       |nil=>rfl
       |cons y b=>simp only[List.length_cons]at hj hk;simp only[AJ];rw[ih a (y::b) k zi zi,ih (x::a) b k zi zi,ih a b k zo zo]
def ij (a b:List Trm):List Trm:=AJ (a.length+b.length) a b
def CK (b:List Trm):ij [] b=b:=by
 unfold ij;cases b with
 |nil=>rfl
 |cons y b=>rfl
def CL (a:List Trm):ij a []=a:=by
 unfold ij;cases a with
 |nil=>rfl
 |cons y b=>rfl
def yI (x y:Trm)(a b:List Trm):ij (x::a) (y::b)=if Op.bytesLess x.1 y.1 then x::ij a (y::b)else if Op.bytesLess y.1 x.1 then y::ij (x::a) b else PH x y::ij a b:=by
 unfold ij;rw[show(x::a).length+(y::b).length=(a.length+b.length+1)+1 by simp;omega];simp only[AJ]
 rw[WK a (y::b) (a.length+b.length+1) (a.length+(y::b).length) zi zm,WK (x::a) b (a.length+b.length+1) ((x::a).length+b.length) zi zm,
  WK a b (a.length+b.length+1) (a.length+b.length) zo zo]
def ahR (a b:List Trm):(ij a b).length<=a.length+b.length:=by
 obtain⟨n,hn⟩:=aB (a.length+b.length);induction n using Nat.strongRecOn generalizing a b with
 | _ n ih=>
   cases a with
   |nil=>rw[CK];simp
   | cons x a=>cases b with
     |nil=>rw[CL];simp
     | cons y b=>
       rw[yI];simp only[List.length_cons]at hn⊢;split
       . have:=ih _ (by simp only[List.length_cons];omega) a (y::b) rfl;simp only[List.length_cons]at this⊢;omega
       . split
         . have:=ih _ (by simp only[List.length_cons];omega) (x::a) b rfl;simp only[List.length_cons]at this⊢;omega
         . have:=ih _ zo a b rfl;simp only[List.length_cons]at this⊢;omega
def cJ :List Trm->List UInt8->Dyadic
 |[],_=>0
 |x::l,m=>(if x.1=m then au x.2 else 0)+cJ l m
def Eg (a b:List Trm)(m:List UInt8):cJ (a++b) m=cJ a m+cJ b m:=by
 induction a with
 |nil=>simp[cJ]
 |cons x a ih=>simp only[List.cons_append,cJ,ih];grind
def abY (a b:List Trm)(m:List UInt8):cJ (ij a b) m=cJ a m+cJ b m:=by
 obtain⟨n,hn⟩:=aB (a.length+b.length);induction n using Nat.strongRecOn generalizing a b with
 | _ n ih=>
   cases a with
   |nil=>rw[CK];simp[cJ]
   | cons x a=>cases b with
     |nil=>rw[CL];simp[cJ]
     | cons y b=>
       rw[yI];simp only[List.length_cons]at hn;split
       . have:=ih _ (by simp only[List.length_cons];omega) a (y::b) rfl;simp only[cJ]at this⊢;rw[this];grind
       . split
         . have:=ih _ (by simp only[List.length_cons];omega) (x::a) b rfl;simp only[cJ]at this⊢;rw[this];grind
         . rename_i h1 h2
           have:=ih _ zo a b rfl;have e:x.1=y.1:=Im (by simpa using h1) (by simpa using h2);simp only[cJ,PH,bF]at this⊢;rw[this,e];split<;>grind
def Up (l:List Trm):Prop:=l.Pairwise λx y=>Op.bytesLess x.1 y.1=true
def OX (a b:List Trm):∀x∈ij a b,∃y∈a++b,y.1=x.1:=by
 obtain⟨n,hn⟩:=aB (a.length+b.length);induction n using Nat.strongRecOn generalizing a b with
 | _ n ih=>
   intro z hz;cases a with
   |nil=>rw[CK]at hz;exact⟨z,by simp[hz],rfl⟩
   | cons x a=>cases b with
     |nil=>rw[CL]at hz;exact⟨z,by simpa using hz,rfl⟩
     | cons y b=>
       rw[yI]at hz;simp only[List.length_cons]at hn;split at hz
       . rcases List.mem_cons.1 hz with rfl|hz
         . exact⟨z,by simp,rfl⟩
         . obtain⟨u,hu,e⟩:=ih _ (by simp only[List.length_cons];omega) a (y::b) rfl z hz;exact⟨u,by simp at hu⊢;rcases hu with h|h|h<;>simp[h],e⟩
       . split at hz
         . rcases List.mem_cons.1 hz with rfl|hz
           . exact⟨z,by simp,rfl⟩
           . obtain⟨u,hu,e⟩:=ih _ (by simp only[List.length_cons];omega) (x::a) b rfl z hz;exact⟨u,by simp at hu⊢;rcases hu with h|h|h<;>simp[h],e⟩
         . rcases List.mem_cons.1 hz with rfl|hz
           . exact⟨x,by simp,rfl⟩
           . obtain⟨u,hu,e⟩:=ih _ zo a b rfl z hz;exact⟨u,by simp at hu⊢;rcases hu with h|h<;>simp[h],e⟩
def awq (a b:List Trm)(ha:Up a)(hb:Up b):Up (ij a b):=by
 obtain⟨n,hn⟩:=aB (a.length+b.length);induction n using Nat.strongRecOn generalizing a b with
 | _ n ih=>
   cases a with
   |nil=>rw[CK];exact hb
   | cons x a=>cases b with
     |nil=>rw[CL];exact ha
     | cons y b=>
       rw[yI];simp only[List.length_cons]at hn;obtain⟨ha1,ha2⟩:=List.pairwise_cons.1 ha;obtain⟨hb1,hb2⟩:=List.pairwise_cons.1 hb;split
       . rename_i h
         refine List.pairwise_cons.2 ⟨λz hz=>?_,ih _ (by simp only[List.length_cons];omega) a (y::b) ha2 hb rfl⟩;obtain⟨u,hu,e⟩:=OX _ _ z hz;rw[<-e];rcases List.mem_append.1 hu with h2|h2
         . exact ha1 u h2
         . rcases List.mem_cons.1 h2 with rfl|h2
           . exact h
           . exact Mw h (hb1 u h2)
       . split
         . rename_i h0 h
           refine List.pairwise_cons.2 ⟨λz hz=>?_,ih _ (by simp only[List.length_cons];omega) (x::a) b ha hb2 rfl⟩;obtain⟨u,hu,e⟩:=OX _ _ z hz;rw[<-e];rcases List.mem_append.1 hu with h2|h2
           . rcases List.mem_cons.1 h2 with rfl|h2
             . exact h
             . exact Mw h (ha1 u h2)
           . exact hb1 u h2
         . rename_i h1 h2
           have e:x.1=y.1:=Im (by simpa using h1) (by simpa using h2);refine List.pairwise_cons.2 ⟨λz hz=>?_,ih _ zo a b ha2 hb2 rfl⟩;obtain⟨u,hu,e2⟩:=OX _ _ z hz;rw[<-e2];show Op.bytesLess x.1 u.1=true
           rcases List.mem_append.1 hu with h3|h3
           . exact ha1 u h3
           . rw[e];exact hb1 u h3
def xe :Nat->List Trm->List Trm
 |0,l=>l
 |k+1,l=>if l.length<2 then l else ij (xe k (l.take (l.length/2))) (xe k (l.drop (l.length/2)))
def ai8 (l:List Trm)(j k:Nat)(hj:l.length<=j)(hk:l.length<=k):xe j l=xe k l:=by
 induction j generalizing k l with
 |zero=>have h:l=[]:=List.length_eq_zero_iff.1 zo;subst h;cases k<;>simp[xe]
 | succ j ih=>
   cases k with
   |zero=>have h:l=[]:=List.length_eq_zero_iff.1 zo;subst h;simp[xe]
   | succ k=>
     simp only[xe];split
     . rfl
     . rw[ih (l.take (l.length/2)) k zi zi,ih (l.drop (l.length/2)) k zi zi]
def im (l:List Trm):List Trm:=xe l.length l
def PG (l:List Trm)(h:l.length<2):im l=l:=by
 unfold im;cases l with
 |nil=>rfl
 |cons x l=>simp only[List.length_cons,xe];rw[if_pos (by simpa using h)]
def XO (l:List Trm)(h:2<=l.length):im l=ij (im (l.take (l.length/2))) (im (l.drop (l.length/2))):=by obtain⟨k,hk⟩:∃k,l.length=k+1:=⟨l.length-1,by omega⟩;unfold im;rw[hk];simp only[xe];rw[if_neg zo,hk,ai8 (l.take ((k+1)/2)) k ((l.take ((k+1)/2)).length) zi (Nat.le_refl _),ai8 (l.drop ((k+1)/2)) k ((l.drop ((k+1)/2)).length) zi (Nat.le_refl _)]
def KP {Q:List Trm->List Trm->Prop}(h0:∀l,l.length<2->Q l l)(h1:∀a b c d,Q a c->Q b d->Q (a++b) (ij c d))(l:List Trm):Q l (im l):=by
 obtain⟨n,hn⟩:=aB l.length;induction n using Nat.strongRecOn generalizing l with
 | _ n ih=>
   by_cases h:l.length<2
   . rw[PG l h];exact h0 l h
   . rw[XO l zo];have:=h1 _ _ _ _ (ih (l.take (l.length/2)).length zi (l.take (l.length/2)) rfl) (ih (l.drop (l.length/2)).length zi (l.drop (l.length/2)) rfl);rwa [List.take_append_drop]at this
def aqr (l:List Trm)(m:List UInt8):cJ (im l) m=cJ l m:=
 KP (Q:=λl r=>cJ r m=cJ l m) (λ_ _=>rfl) (λa b c d h1 h2=>by rw[abY,Eg,h1,h2]) l
def azT (l:List Trm):Up (im l):=
 KP (Q:=λ_ r=>Up r) (λl h=>by
  cases l with
  |nil=>exact List.Pairwise.nil
  | cons x l=>cases l with
    |nil=>exact List.pairwise_singleton _ _
    |cons y l=>simp at h;omega) (λa b c d h1 h2=>awq c d h1 h2) l
def KQ (l:List Trm):(im l).length<=l.length:=
 KP (Q:=λl r=>r.length<=l.length) (λ_ _=>Nat.le_refl _) (λa b c d h1 h2=>by have:=ahR c d;simp;omega) l
def ai9 (l:List Trm):∀x∈im l,∃y∈l,y.1=x.1:=
 KP (Q:=λl r=>∀x∈r,∃y∈l,y.1=x.1) (λl _ x hx=>⟨x,hx,rfl⟩) (λa b c d h1 h2 x hx=>by
  obtain⟨y,hy,e⟩:=OX c d x hx;rcases List.mem_append.1 hy with h|h
  . obtain⟨z,hz,e2⟩:=h1 y h;exact⟨z,by simp[hz],e2.trans e⟩
  . obtain⟨z,hz,e2⟩:=h2 y h;exact⟨z,by simp[hz],e2.trans e⟩) l
def pO (x:Trm):Bool:=!(bg (au x.2)==0)
def cg (l:List Trm):List Trm:=((im l).filter pO).map λx=>(x.1,canon (au x.2))
def Good (l:List Trm):Prop:=Up l/\∀x∈l,au x.2≠0/\x.2=canon (au x.2)
def Iy (X:Dyadic):(bg X==0)=false↔X≠0:=by
 have h:bg X=0↔X=0:=by
  constructor
  . intro h;have h1:dN X=0:=by
     unfold bg eI at h;by_cases h1:dN X<0
     . rw[if_pos h1]at h;cases h
     . rw[if_neg h1]at h;by_cases h2:dN X=0
       . exact h2
       . rw[if_neg h2]at h;cases h
    have h2:=vD X;rw[h1,vE]at h2;exact h2
  . rintro rfl;rfl
 rw[beq_eq_false_iff_ne];exact not_congr h
def aql (l:List Trm)(m:List UInt8):cJ (l.filter pO) m=cJ l m:=by
 induction l with
 |nil=>rfl
 | cons x l ih=>
   rw[List.filter_cons];split
   . simp only[cJ,ih]
   . rename_i h
     have h0:au x.2=0:=Classical.byContradiction λhc=>h (by unfold pO;rw[(Iy _).2 hc];rfl);simp only[cJ,ih,h0];split<;>grind
def aqn (l:List Trm)(m:List UInt8):cJ (l.map λx=>(x.1,canon (au x.2))) m=cJ l m:=by
 induction l with
 |nil=>rfl
 |cons x l ih=>simp only[List.map_cons,cJ,ih,bF]
def xS (l:List Trm)(m:List UInt8):cJ (cg l) m=cJ l m:=by unfold cg;rw[aqn,aql,aqr]
def aAW {l:List Trm}(h:Up l):Up (l.map λx=>(x.1,canon (au x.2))):=List.Pairwise.map _ (λ_ _ h=>h) h
def asE (l:List Trm)(h:Up l):Good ((l.filter pO).map λx=>(x.1,canon (au x.2))):=by
 refine⟨aAW (List.Pairwise.filter _ h),λx hx=>?_⟩;obtain⟨y,hy,rfl⟩:=List.mem_map.1 hx;have h2:=(List.mem_filter.1 hy).2;unfold pO at h2;refine⟨?_,?_⟩
 . show au (canon (au y.2))≠0
   rw[bF];exact(Iy _).1 (by simpa using h2)
 . show canon (au y.2)=canon (au (canon (au y.2)))
   rw[bF]
def BN (l:List Trm):Good (cg l):=asE _ (azT l)
def Ir (l:List Trm):(cg l).length<=l.length:=by unfold cg;rw[List.length_map];exact Nat.le_trans (List.length_filter_le _ _) (KQ l)
def abZ (l:List Trm)(m:List UInt8)(h:∀x∈l,x.1≠m):cJ l m=0:=by
 induction l with
 |nil=>rfl
 |cons x l ih=>simp only[cJ];rw[if_neg (h x zm),ih (λy hy=>h y (by simp[hy]))];grind
def Good.tail {x:Trm}{l:List Trm}(h:Good (x::l)):Good l:=⟨(List.pairwise_cons.1 h.1).2,λy hy=>h.2 y (by simp[hy])⟩
def Good.off {x:Trm}{l:List Trm}(h:Good (x::l)):cJ l x.1=0:=by refine abZ _ _ (λy hy e=>?_);have:=(List.pairwise_cons.1 h.1).1 y hy;rw[e,Ea]at this;cases this
def Good.head {x:Trm}{l:List Trm}(h:Good (x::l)):cJ (x::l) x.1=au x.2:=by simp only[cJ,if_pos,h.off];grind
def Good.before {x y:Trm}{l:List Trm}(h:Good (y::l))(hx:Op.bytesLess x.1 y.1=true):cJ (y::l) x.1=0:=by
 refine abZ _ _ (λz hz e=>?_);rcases List.mem_cons.1 hz with rfl|hz
 . rw[e,Ea]at hx;cases hx
 . have:=Mw hx ((List.pairwise_cons.1 h.1).1 z hz);rw[e,Ea]at this;cases this
def asC {a b:List Trm}(ha:Good a)(hb:Good b)(h:∀m,cJ a m=cJ b m):a=b:=by
 induction a generalizing b with
 | nil=>
   cases b with
   |nil=>rfl
   |cons y b=>have:=h y.1;rw[hb.head]at this;exact absurd this.symm (hb.2 y zm).1
 | cons x a ih=>
   cases b with
   |nil=>have:=h x.1;rw[ha.head]at this;exact absurd this (ha.2 x zm).1
   | cons y b=>
     have h1:Op.bytesLess x.1 y.1=false:=by
      cases hc:Op.bytesLess x.1 y.1 with
      |false=>rfl
      |true=>have:=h x.1;rw[ha.head,hb.before hc]at this;exact absurd this (ha.2 x zm).1
     have h2:Op.bytesLess y.1 x.1=false:=by
      cases hc:Op.bytesLess y.1 x.1 with
      |false=>rfl
      |true=>have:=h y.1;rw[hb.head,ha.before hc]at this;exact absurd this.symm (hb.2 y zm).1
     have e1:x.1=y.1:=Im h1 h2;have e2:au x.2=au y.2:=by have:=h x.1;rw[ha.head]at this;rw[this,e1,hb.head]
     have e3:x=y:=by refine Prod.ext e1 ?_;rw[(ha.2 x zm).2,(hb.2 y zm).2,e2]
     subst e3
     rw[ih ha.tail hb.tail (λm=>by
      have:=h m;simp only[cJ]at this;generalize (if x.1=m then au x.2 else 0)=u at this
      grind)]
end Go.Proofs.YtbkopgdpcijfbaaGreatDoor
namespace Go.Proofs.YtbkopgdpcijfbaaGreatDoor
open Go.RowKit
attribute [local go_sem ↓] Go.wp_at_zero Go.wp_at_succ
def yM (a b:List UInt8):Int:=if Op.bytesLess a b then-1 else if Op.bytesLess b a then 1 else 0
def azr (l:List UInt8)(s:Bool)(m:List UInt8)(e:Int)(l':List UInt8)(s':Bool)(m':List UInt8)(e':Int)(w:World):
 Cv 225 #[.agg #[ah l,ag s,ah m,af e],.agg #[ah l',ag s',ah m',af e']] w (af (yM l l')):=by
 obtain⟨R,hR⟩:=aB (yM l l');unfold yM at hR;rw[show yM l l'=R from hR];obtain⟨W,cE,ae,ak⟩:=lA w 90 [ah l,ag s,ah m,af e] 90 [ah l',ag s',ah m',af e'];cases h1:Op.bytesLess l l' with
 | true=>
   rw[h1]at hR;simp only[if_true]at hR;subst hR;have h2:Op.bytesLess (bs l).toList (bs l').toList=true:=by rw[jT,jT];exact h1
   clear h1;go_enter Tryz.func225,Tryz.ntmps225;go_wp2;go_ret;exact⟨rfl,ae.1.out⟩
 | false=>
   rw[h1]at hR;simp only[Bool.false_eq_true,if_false]at hR;have h2:Op.bytesLess (bs l).toList (bs l').toList=false:=by rw[jT,jT];exact h1
   cases h3:Op.bytesLess l' l with
   | true=>
     rw[h3]at hR;simp only[if_true]at hR;subst hR;have hne:¬l=l':=by rintro rfl;rw[Ea]at h3;cases h3
     have h4:((bs l).toList==(bs l').toList)=false:=by rw[jT,jT];simpa using hne
     have h5:¬(bs l).toList=(bs l').toList:=by rw[jT,jT];exact hne
     clear h1 h3 hne;go_enter Tryz.func225,Tryz.ntmps225;go_wp2;go_ret;exact⟨rfl,ae.1.out⟩
   |false=>rw[h3]at hR;simp only[Bool.false_eq_true,if_false]at hR;subst hR;obtain rfl:=Im h1 h3;clear h1 h3;go_enter Tryz.func225,Tryz.ntmps225;go_wp2;go_ret;exact⟨rfl,ae.1.out⟩
def az7 (l:List UInt8)(s:Bool)(m:List UInt8)(e:Int)(l':List UInt8)(s':Bool)(m':List UInt8)(e':Int)(S:Dyadic)(B:Nat)(hS:au (s,m,e)+au (s',m',e')=S)(w:World)(hx:Fit B (s,m,e))(hy:Fit B (s',m',e'))(hB:B+2<=268435456)(hT:aC w):
 Cv 226 #[.agg #[ah l,ag s,ah m,af e],.agg #[ah l',ag s',ah m',af e']] w (.agg #[ah l,ag (az (dN S)),ah (nt (dN S).natAbs),af (dE S)]):=by
 obtain⟨td,GI,HS,HT⟩:=dv hx hy hS hT;clear hx hy hS hT;obtain⟨W,cE,ae,ak⟩:=Pz w 90 [ah l,ag s,ah m,af e] 90 [ah l',ag s',ah m',af e'] 90 [.string ⟨#[]⟩,ag false,.string ⟨#[]⟩,af 0];go_enter Tryz.func226,Tryz.ntmps226;go_wp2_with fail;refine fT 9 ae (fH 10 0x12110e0c0b0907050301) ?_;refine cG ?_;refine vG 30 [ag s,ah m,af e,ag s',ah m',af e'] ae λW3 aR ae=>?_;refine cV ae (xU s m e s' m' e' S B HS.out W.heap.size _ 30 _ td.out GI.out hB ae.1.out ((HT.out.below ae.2.1.out))) λw4 ae=>?_;refine cG ?_;have ak:=qC ae;refine qOp λK hK=>?_;go_simp;refine hK _ _ (λh=>absurd h zd) ?_
 refine cB (aV w4 (w.heap.size+1+1) 0 [ah l,ag (az (dN S)),ah (nt (dN S).natAbs),af (dE S)]) aX ?_;intro w5 hs0;have ae:=bU hs0 ae;simp only[bV,List.set]at ae;have ak:=qC ae;refine fR ae λak=>?_;have Hb:=ae.2.1;have r0:w5.cell? ⟨w.heap.size+1+1,0,none⟩=some (ah l):=ae.2.2.2.2.1.out.cell 0;have r1:w5.cell? ⟨w.heap.size+1+1,1,none⟩=some (ag (az (dN S))):=ae.2.2.2.2.1.out.cell 1;have r2:w5.cell? ⟨w.heap.size+1+1,2,none⟩=some (ah (nt (dN S).natAbs)):=ae.2.2.2.2.1.out.cell 2;have r3:w5.cell? ⟨w.heap.size+1+1,3,none⟩=some (af (dE S)):=ae.2.2.2.2.1.out.cell 3;go_wp2;exact bodyPost_ret (v:=.agg #[ah l,ag (az (dN S)),ah (nt (dN S).natAbs),af (dE S)]) (by simp[results,Tryz.results226,go_sem,r0,r1,r2,r3,ak]) rfl ⟨rfl,df⟩
def aqa (l:List UInt8)(s:Bool)(m:List UInt8)(e:Int)(w:World)(hx:Ok (s,m,e)):
 Cv 275 #[.agg #[ah l,ag s,ah m,af e]] w (ag (!pO (l,s,m,e))):=by
 obtain⟨g,hg⟩:=aB (bg (au (s,m,e)));have hs:=λW=>nR s m e g hg W hx;have hz:(!pO (l,s,m,e))=decide (g=0):=by unfold pO;rw[hg];by_cases h:g=0<;>simp[h]
 rw[hz];have Hs:=aj hs;clear hs hz hg hx;obtain⟨W,cE,ae,ak⟩:=il w 90 [ah l,ag s,ah m,af e];go_enter Tryz.func275,Tryz.ntmps275;go_wp2_with fail;refine aJ ae (Hs.out _) λw1 ae ak=>?_;go_wp2;refine bodyPost_ret (results_tmp rfl _ _ _) rfl ⟨?_,ae.1.out⟩;by_cases h:g=0<;>simp[h]
def av5 (l:List UInt8)(s:Bool)(m:List UInt8)(e:Int)(V:Int)(bv:Nat)(w:World)(hv:w.cell? ⟨bv,0,none⟩=some (af V))(hl:l.length<=9223372036854775807):
 Cv 249 #[.agg #[ah l,ag s,ah m,af e],.pointer (some ⟨bv,0,none⟩)] w (ag (!fQ l V)):=by
 have hm:=λW=>OW l V W hl;obtain⟨t,ht⟩:=aB (fQ l V);rw[ht]at hm⊢;obtain⟨Hm,Hv⟩:=aK hm hv;clear hm ht hv;obtain⟨W,cE,ae,ak⟩:=il w 90 [ah l,ag s,ah m,af e];have hv2:=cell_later ae.1.out Hv.out;go_enter Tryz.func249,Tryz.ntmps249;go_wp2_with fail;refine aJ ae (Hm.out _) λw1 ae ak=>?_;clear hv2;go_wp2;refine bodyPost_ret (results_tmp rfl _ _ _) rfl ⟨rfl,ae.1.out⟩
end Go.Proofs.YtbkopgdpcijfbaaGreatDoor
namespace Go.Proofs.YtbkopgdpcijfbaaGreatDoor
def Ml (V:Nat)(ts:List Trm):Prop:=Good ts/\(∀t∈ts,fQ t.1 V=true)/\ts.length<=4096/\V<=12
def aik {V:Nat}{ts:List Trm}(h:Ml V ts):mC V ts=0:=by
 obtain⟨⟨h1,h2⟩,h3,h4,h5⟩:=h;unfold mC;rw[if_neg zo,if_neg zo,if_pos];rw[List.all_eq_true];intro k hk;have hk:k<ts.length:=by simpa using hk
 have e:ts.getD k default=ts[k]:=by simp[hk]
 have hm:=List.getElem_mem hk;unfold nS zR;rw[e,h3 _ hm,(Iy _).2 (h2 _ hm).1];have e2:(canon (au ts[k].2)==ts[k].2)=true:=by rw[beq_iff_eq];exact(h2 _ hm).2.symm
 rw[e2];by_cases h0:k=0
 . simp[h0]
 . have hk1:k-1<ts.length:=by omega
   have e3:ts.getD (k-1) default=ts[k-1]:=by simp[hk1]
   have:=List.pairwise_iff_getElem.1 h1 (k-1) k hk1 hk zo;rw[e3,jT,jT,this];simp
def Good.coef {l:List Trm}(h:Good l):∀t∈l,au t.2=cJ l t.1:=by
 induction l with
 |nil=>intro t ht;cases ht
 | cons x l ih=>
   intro t ht;rcases List.mem_cons.1 ht with rfl|ht
   . exact h.head.symm
   . have hne:¬x.1=t.1:=λe=>by have:=(List.pairwise_cons.1 h.1).1 t ht;rw[e,Ea]at this;cases this
     simp only[cJ,if_neg hne,ih h.tail t ht];grind
def aqp {B:Nat}{l:List Trm}(h:∀x∈l,Sm B (au x.2))(m:List UInt8):Sm (B+l.length) (cJ l m):=by
 induction l with
 |nil=>exact Sm.zero _
 | cons x l ih=>
   have h1:=ih (λy hy=>h y (by simp[hy]));have h2:Sm B (if x.1=m then au x.2 else 0):=by
    split
    . exact h x zm
    . exact Sm.zero _
   exact((h2.mono (show B<=B+l.length by omega)).add h1).mono zi
def aqe {B:Nat}{l:List Trm}(h:∀x∈l,Sm B (au x.2)):∀t∈cg l,Sm (B+l.length) (au t.2):=by intro t ht;rw[(BN l).coef t ht,xS];exact aqp h _
def abS (l:List Trm):∀x∈cg l,∃y∈l,y.1=x.1:=by intro x hx;unfold cg at hx;obtain⟨y,hy,rfl⟩:=List.mem_map.1 hx;exact ai9 l y (List.mem_filter.1 hy).1
def aqd {V:Nat}{l:List Trm}(hV:V<=12)(hm:∀t∈l,fQ t.1 V=true)(hl:l.length<=4096):Ml V (cg l):=
 ⟨BN l,λt ht=>by obtain⟨y,hy,e⟩:=abS l t ht;rw[<-e];exact hm y hy,Nat.le_trans (Ir l) hl,hV⟩
def Ee {a b:List Trm}(h:∀m,cJ a m=cJ b m):cg a=cg b:=asC (BN a) (BN b) (λm=>by rw[xS,xS,h m])
def aqc (a b:List Trm):cg (cg a++cg b)=cg (a++b):=Ee (λm=>by rw[Eg,Eg,xS,xS])
def gG (c:Dyadic)(l:List Trm):List Trm:=l.map λx=>(x.1,canon (au x.2*c))
def ab2 (c:Dyadic)(l:List Trm)(m:List UInt8):cJ (gG c l) m=cJ l m*c:=by
 induction l with
 |nil=>simp[gG,cJ]
 |cons x l ih=>simp only[gG,List.map_cons,cJ]at ih⊢;rw[ih,bF];split<;>grind
def iN (n:Nat):List UInt8:=List.replicate n 0
def cN (n k:Nat):List UInt8:=(List.replicate n 0).set k 1
def aj9 (n:Nat):fQ (iN n) n=true:=by unfold fQ iN;rw[Bool.and_eq_true];refine⟨?_,by simp⟩;rw[List.all_eq_true];intro c hc;rw[(List.mem_replicate.1 hc).2];rfl
def Yr (n k:Nat):fQ (cN n k) n=true:=by
 unfold fQ cN;rw[Bool.and_eq_true];refine⟨?_,by simp⟩;rw[List.all_eq_true];intro c hc;rcases List.mem_or_eq_of_mem_set hc with h|h
 . rw[(List.mem_replicate.1 h).2];rfl
 . rw[h];rfl
def iW (n:Nat)(c:Dyadic)(l:Nat->Dyadic)(k:Nat):List Trm:=(iN n,canon c)::(List.range k).map λj=>(cN n j,canon (l j))
def eD (n:Nat)(c:Dyadic)(l:Nat->Dyadic)(k:Nat):List Trm:=cg (iW n c l k)
def EZ (n:Nat)(c:Dyadic)(l:Nat->Dyadic)(k:Nat):(iW n c l k).length=k+1:=by simp[iW]
def avp (n:Nat)(c:Dyadic)(l:Nat->Dyadic)(k:Nat):∀t∈iW n c l k,fQ t.1 n=true:=by
 intro t ht;unfold iW at ht;rcases List.mem_cons.1 ht with rfl|ht
 . exact aj9 n
 . obtain⟨j,_,rfl⟩:=List.mem_map.1 ht;exact Yr n j
def avq {B:Nat}(n:Nat)(c:Dyadic)(l:Nat->Dyadic)(k:Nat)(hc:Sm B c)(hl:∀j,j<k->Sm B (l j)):∀t∈iW n c l k,Sm B (au t.2):=by
 intro t ht;unfold iW at ht;rcases List.mem_cons.1 ht with rfl|ht
 . show Sm B (au (canon c));rw[bF];exact hc
 . obtain⟨j,hj,rfl⟩:=List.mem_map.1 ht;show Sm B (au (canon (l j)));rw[bF];exact hl j (by simpa using hj)
def Wt (n:Nat)(c:Dyadic)(l:Nat->Dyadic)(k:Nat):iW n c l (k+1)=iW n c l k++[(cN n k,canon (l k))]:=by unfold iW;rw[List.range_succ,List.map_append];rfl
def MG (n:Nat)(c:Dyadic)(l:Nat->Dyadic)(k:Nat)(m:List UInt8):cJ (iW n c l (k+1)) m=cJ (iW n c l k) m+if cN n k=m then l k else 0:=by rw[Wt,Eg];simp only[cJ,bF];grind
def avr (n:Nat)(c:Dyadic)(l:Nat->Dyadic)(k:Nat):cg (eD n c l k++cg [(cN n k,canon (l k))])=eD n c l (k+1):=by unfold eD;rw[aqc,Wt]
def aqm (n:Nat)(c d:Dyadic)(l r:Nat->Dyadic)(u v:Dyadic)(k:Nat)(m:List UInt8):cJ (iW n (c*u+d*v) (λj=>l j*u+r j*v) k) m=cJ (iW n c l k) m*u+cJ (iW n d r k) m*v:=by
 induction k with
 |zero=>simp[iW,cJ,bF];split<;>grind
 |succ k ih=>rw[MG,ih,MG,MG];split<;>grind
def avo {n:Nat}{c d:Dyadic}{l r:Nat->Dyadic}(k:Nat)(hc:c=d)(h:∀j,j<k->l j=r j):iW n c l k=iW n d r k:=by unfold iW;rw[hc];congr 1;refine List.map_congr_left λj hj=>?_;rw[h j (by simpa using hj)]
def avs (n:Nat)(c d:Dyadic)(l r:Nat->Dyadic)(k:Nat):cg (eD n c l k++cg (gG (-1) (eD n d r k)))=eD n (c-d) (λj=>l j-r j) k:=by unfold eD;refine Ee (λm=>?_);rw[Eg,xS,xS,ab2,xS];have h:=aqm n c d l r 1 (-1) k m;rw[avo (d:=c-d) (r:=λj=>l j-r j) k (by grind) (λj _=>by grind)]at h;rw[h];grind
end Go.Proofs.YtbkopgdpcijfbaaGreatDoor
namespace Go.Proofs.YtbkopgdpcijfbaaGreatDoor
open Go.RowKit
attribute [local go_sem ↓] Go.wp_at_zero Go.wp_at_succ
def vJ (p q:List Dyadic):Nat->Dyadic
 |0=>0
 |k+1=>vJ p q k+(p.getD k 0-q.getD k 0) * (p.getD k 0-q.getD k 0)
def ai7 {B:Nat}{p q:List Dyadic}(hp:∀c∈p,Sm B c)(hq:∀c∈q,Sm B c)(k:Nat):Sm (2*B+2+k) (vJ p q k):=by
 induction k with
 |zero=>exact Sm.zero _
 |succ k ih=>have h1:=Sm.sub (uT hp k) (uT hq k);have h2:=Sm.mul h1 h1;exact Sm.add ih (h2.mono (show B+1+(B+1)<=2*B+2+k by omega))
def azR (a:Option Addr)(n cap:Nat)(P:List Raw)(a':Option Addr)(cap':Nat)(Q:List Raw)(B:Nat)(w:World)(hP:P.length=n)(hQ:Q.length=n)(hn:n<=8)(ha:At w a (P.flatMap bu))(ha':At w a' (Q.flatMap bu))
 (Va:∀x∈P,Fit B x) (Vb:∀x∈Q,Fit B x) (hB:B<=10000000) (hT:aC w):
 Cv 160 #[.slice a n cap,.slice a' n cap'] w (bT (vJ (P.map au) (Q.map au) n)):=by
 have hsP:∀c∈P.map au,Sm B c:=λc hc=>by obtain⟨x,hx,rfl⟩:=List.mem_map.1 hc;exact(Va x hx).2
 have hsQ:∀c∈Q.map au,Sm B c:=λc hc=>by obtain⟨x,hx,rfl⟩:=List.mem_map.1 hc;exact(Vb x hx).2
 have tX:=λk=>ai7 hsP hsQ k;have hstep:∀k (h1:k<P.length) (h2:k<Q.length),vJ (P.map au) (Q.map au) (k+1)=vJ (P.map au) (Q.map au) k+(au P[k]-au Q[k]) * (au P[k]-au Q[k]):=λk h1 h2=>by
  have e1:(P.map au).getD k 0=au P[k]:=by simp[h1]
  have e2:(Q.map au).getD k 0=au Q[k]:=by simp[h2]
  rw[vJ,e1,e2]
 have hs0:vJ (P.map au) (Q.map au) 0=0:=rfl;obtain⟨F,hF⟩:=aB (vJ (P.map au) (Q.map au));rw[hF]at hs0⊢;simp only[hF]at tX hstep;obtain⟨HP,HQ,Ha,yU,QU,QV,HT,Hsq,jf,Mf⟩:=yC hP hQ ha ha' Va Vb hT tX hstep hs0;clear hP hQ ha ha' Va Vb hT tX hstep hs0 hF hsP hsQ;obtain⟨W,cE,ae,ak⟩:=lA w 30 [ag false,.string ⟨#[]⟩,af 0] 30 [ag false,.string ⟨#[]⟩,af 0];go_enter Tryz.func160,Tryz.ntmps160;go_wp2_with fail;first|refine dA (aV W (w.heap.size+1) 0 [ag false,.string ⟨#[]⟩,af 0]) aX ?_|refine dV (aV W (w.heap.size+1) 0 [ag false,.string ⟨#[]⟩,af 0]) aX ?_
 intro w1 hs0;have ae:=bU hs0 ae;simp only[bV,List.set]at ae;have ak:=qC ae;have lr:=ae.2.1.out.lt;have ls:=ae.2.2.1.out.lt;go_wp2_with fail;go_loopw[11] (λi wr=>∃(k:Nat) (X:Dyadic),k<=n/\i=af (k:Int)/\F k=X/\ar wr w.heap.size 30 [ag false,.string ⟨#[]⟩,af 0]/\ar wr (w.heap.size+1) 30 (bu (canon X))/\Bw w wr) (λi _=>n-(intOf i).toNat);case atStart=>exact⟨0,0,Nat.zero_le _,rfl,Mf.out,ae.2.1.out,ae.2.2.1.out,ae.1.out⟩
 case round=>
  skip
  obtain⟨k,X,hk,rfl,hX,pr,ps,pb⟩:=hrel;by_cases hlt:k<n
  . have k1:k<P.length:=by rw[HP.out];exact hlt
    have k2:k<Q.length:=by rw[HQ.out];exact hlt
    obtain⟨sp,mp,ep,jG⟩:=sk (P[k]);obtain⟨sq,mq,eq,ua⟩:=sk (Q[k]);have gy:=QU.out _ (List.getElem_mem k1);have sD:=QV.out _ (List.getElem_mem k2);have hst:=jf.out k k1 k2;rw[jG]at gy hst;rw[ua]at sD hst;obtain⟨D,hD⟩:=aB (au (sp,mp,ep)-au (sq,mq,eq));obtain⟨E,hE⟩:=aB (D*D);obtain⟨Y,hY⟩:=aB (X+E);rw[hX,hD,hE,hY]at hst;have iU:Sm (B+1) D:=by rw[<-hD];exact Sm.sub gy.2 sD.2
    have rz:Sm (2*B+2) E:=by rw[<-hE];exact(Sm.mul iU iU).mono zo
    have fK:Sm (2*B+2+k) X:=by rw[<-hX];exact Hsq.out k
    obtain⟨b1,o1,dh,p0,p1,p2⟩:=(Ha.out.below pb).num k k1 jG;obtain⟨b2,o2,dG,q0,q1,q2⟩:=(yU.out.below pb).num k k2 ua;have pE:=yz n cap k (k:Int) dh hlt rfl;have kv:=yz n cap' k (k:Int) dG hlt rfl;have Hp:Hid (aZ wr b1 (o1+k*3) [ag sp,ah mp,af ep]):=kE p0 p1 p2;have Hq:Hid (aZ wr b2 (o2+k*3) [ag sq,ah mq,af eq]):=kE q0 q1 q2;obtain⟨sZ,Dw,HD,HE,HY,bR,PZ,Qb,Dk,Hr⟩:=yC gy sD hD hE hY hst iU rz fK pr;have Hs:Hid (ar wr (w.heap.size+1) 30 (bG X)):=ps;obtain⟨ft,dD⟩:=aK pb (HT.out.below pb);have szb:=pb.size;clear pr ps pb gy sD hst hD hE hY iU rz fK p0 p1 p2 q0 q1 q2 jG ua hX dh dG;have Hb:=hbz wr;go_upto_region 5 with fail
    go_cut[7] (λs7 wx=>∃g:Nat,s7=.pointer (some ⟨g,0,none⟩)/\wr.heap.size<=g/\ar wx g 30 (bG D)/\Bw wr wx);case first=>
     have p0:wr.cell? ⟨b1,o1+k*3,none⟩=some (ag sp):=Hp.out.cell 0 zm;have p1:wr.cell? ⟨b1,o1+k*3+1,none⟩=some (ah mp):=Hp.out.cell 1 zm;have p2:wr.cell? ⟨b1,o1+k*3+2,none⟩=some (af ep):=Hp.out.cell 2 zm;have q0:wr.cell? ⟨b2,o2+k*3,none⟩=some (ag sq):=Hq.out.cell 0 zm;have q1:wr.cell? ⟨b2,o2+k*3+1,none⟩=some (ah mq):=Hq.out.cell 1 zm;have q2:wr.cell? ⟨b2,o2+k*3+2,none⟩=some (af eq):=Hq.out.cell 2 zm;obtain⟨ae,ak⟩:=qZ (Hp.an<|Hq.an trivial);obtain⟨Hp,Hq,_⟩:=ae;obtain⟨p0,p1,p2⟩:=Hp.out.w3;obtain⟨q0,q1,q2⟩:=Hq.out.w3;refine YB (λw'=>aH w' b1 (o1+k*3) (ag sp)/\aH w' b1 (o1+k*3+1) (ah mp)/\aH w' b1 (o1+k*3+2) (af ep)/\aH w' b2 (o2+k*3) (ag sq)/\aH w' b2 (o2+k*3+1) (ah mq)/\aH w' b2 (o2+k*3+2) (af eq)) (λi=>Nat.blt i 10) 8 9 [(9,false),(10,false)] [(8,false),(10,false)] [0,1,2,3,4,5,6,7] zk zk rfl rfl zk zc ⟨p0,p1,p2,q0,q1,q2⟩ ?_;iterate 8 (refine Xg rfl rfl (v:=?_) (λw' hw'=>?_) ?_;rotate_left;(focus obtain⟨q0,q1,q2,q3,q4,q5⟩:=hw';go_simp;try with_reducible rfl))
     refine Xf rfl rfl rfl rfl (λK hK=>?_) (λK hK=>?_)
     . go_simp;with_reducible refine(Ej sp mp ep sq mq eq D B HD.out _ sZ.out Dw.out zo (by first|exact dD.out|exact aC.drew dD.out|exact aC.alloc dD.out _|exact aC.drew (aC.alloc dD.out _) |exact aC.alloc (aC.drew dD.out) _)).mono ?_
       rintro e w5 ⟨rfl,hq⟩;have cS:Bw wr w5:=cu hq;refine hK _ _ ⟨cell_later cS p0,cell_later cS p1,cell_later cS p2,cell_later cS q0,cell_later cS q1,cell_later cS q2⟩ ?_
       refine aM rfl rfl (λK hK=>?_);go_simp;refine hK _ _ (λ_=>⟨aU (cell_later cS p0),aU (cell_later cS p1),aU (cell_later cS p2),aU (cell_later cS q0),aU (cell_later cS q1),aU (cell_later cS q2)⟩) ?_
       refine aM rfl rfl (λK hK=>?_);go_simp;refine hK _ _ (λh=>absurd h zd) ?_;simp only[bH];go_wp2_with fail;go_meet;exact⟨w5.heap.size,rfl,cS.size,ar.new _ _ _,cS.alloc cS.size _⟩
     . go_simp;refine hK _ _ ⟨aU p0,aU p1,aU p2,aU q0,aU q1,aU q2⟩ ?_
       refine aM rfl rfl (λK hK=>?_);go_simp;with_reducible refine(Ej sp mp ep sq mq eq D B HD.out _ sZ.out Dw.out zo (by first|exact dD.out|exact aC.drew dD.out|exact aC.alloc dD.out _|exact aC.drew (aC.alloc dD.out _) |exact aC.alloc (aC.drew dD.out) _)).mono ?_
       rintro e w5 ⟨rfl,hq⟩;have cS:Bw wr w5:=uK hq;have Hn:ar w5 wr.heap.size 30 [ag false,.string ⟨#[]⟩,af 0]:=ar.below (ar.new wr.drew 30 [ag false,.string ⟨#[]⟩,af 0]) hq;obtain⟨n0,mP,n1,mQ,n2,mR⟩:=Hn.g3;refine hK _ _ (λ_=>⟨cell_later cS p0,cell_later cS p1,cell_later cS p2,cell_later cS q0,cell_later cS q1,cell_later cS q2⟩) ?_
       refine aM rfl rfl (λK hK=>?_);go_simp;refine hK _ _ (λh=>absurd h zd) ?_;simp only[bH];go_wp2_with fail;go_meet;exact⟨wr.heap.size,rfl,Nat.le_refl _,((Hn.set 0 _).set 1 _).set 2 _,((cS.sc wr.heap.size 0 (Nat.le_refl _) _).sc wr.heap.size 1 (Nat.le_refl _) _).sc wr.heap.size 2 (Nat.le_refl _) _⟩
    case rest=>
     obtain⟨g,rfl,hg,qd,qb⟩:=hcut;have ZO:Hid (Fit (B+1) (bE D)):=PZ.out.fit zo;have HfX:Hid (Fit (2*B+10) (bE X)):=(Dk.out.mono zo).fit zo;have QT:Hid (Fit (2*B+10) (bE E)):=(Qb.out.mono zo).fit zo;have Rp:Hid (au (bE D) *au (bE D)=E):=by show au (canon D) *au (canon D)=E;rw[bF];exact HE.out
     have HaY:Hid (au (bE X)+au (bE E)=Y):=by show au (canon X)+au (canon E)=Y;rw[bF,bF];exact HY.out
     have ls2:=Hs.out.lt;replace Hr:=aj (Hr.out.below qb);replace Hs:=aj (Hs.out.below qb);have Hd:=aj qd;replace dD:=aj (dD.out.below qb);clear Hb;have Hb:=aj (aI ft.out qb);have lg:=Hd.out.lt;clear qd qb;obtain⟨ae,ak⟩:=qZ (Hr.an<|Hs.an<|Hd.an trivial);have dD:Hid (aC wc):=dD.out;go_wp2_with fail;have ae:=Hb.an<|dD.an ae
     refine fT 7 ae (fH 8 0xe0c0a0806050301) ?_;refine cG ?_;refine vG 30 [ag (az (dN D)),ah (nt (dN D).natAbs),af (dE D),ag (az (dN D)),ah (nt (dN D).natAbs),af (dE D)] ae λw6 aR ae=>?_;refine cV ae (tB _ _ _ _ _ _ E (B+1) Rp.out _ 2 _ _ ZO.out ZO.out zo ae.1.out (qU ae.2.2.1.out)) λw7 ae=>?_;refine vG 30 [ag (az (dN X)),ah (nt (dN X).natAbs),af (dE X),ag (az (dN E)),ah (nt (dN E).natAbs),af (dE E)] ae λw8 aR ae=>?_;refine cV ae (xU _ _ _ _ _ _ Y (2*B+10) HaY.out _ 2 _ _ HfX.out QT.out zo ae.1.out (qU ae.2.2.2.1.out)) λw9 ae=>?_;have ak:=qC ae;refine qOp λK hK=>?_;go_simp;refine hK _ _ (λh=>absurd h zd) ?_
     refine cB (aV w9 (w.heap.size+1) 0 (bG Y)) aX ?_;intro dw hs0;have ae:=bU hs0 ae;simp only[bV,List.set]at ae;have ak:=qC ae;refine fR ae λak=>?_;go_wp2;go_roundw;case rel=>exact⟨k+1,Y,by omega,by go_num,bR.out,ae.2.2.2.2.1.out,ae.2.2.2.2.2.1.out,ae.2.2.1.out⟩
     case measure=>exact bC
  . obtain rfl:k=n:=by omega
    have Hr:=aj pr;have Hs:Hid (ar wr (w.heap.size+1) 30 (bG X)):=ps;obtain⟨HX,Hb⟩:=aK hX pb;clear pr ps pb hX;obtain⟨ae,ak⟩:=qZ (Hr.an<|Hs.an trivial);go_wp2;refine dX (aV wr (w.heap.size) 0 (bG X)) aX ?_;intro w9 hs0;have ae:=bU hs0 (Hb.an ae);simp only[bV,List.set]at ae;have ak:=qC ae;refine bodyPost_ret (v:=bT X) (by simp[results,Tryz.results160,go_sem,ak]) rfl ⟨by rw[HX.out],ae.1.out⟩
def cH (rows:List (List Raw))(n a b:Nat):Dyadic:=vJ ((rows.getD a []).map au) ((rows.getD b []).map au) n
def yE (sq:Nat->Nat->Dyadic)(a b:Nat)(s:Nat×Nat×Dyadic):Nat×Nat×Dyadic:=if 0<bg (sq a b-s.2.2)then(a,b,sq a b)else s
def ud (sq:Nat->Nat->Dyadic)(a:Nat):Nat->Nat->Nat×Nat×Dyadic->Nat×Nat×Dyadic
 |0,_,s=>s
 |k+1,b,s=>ud sq a k (b+1) (yE sq a b s)
def sL (sq:Nat->Nat->Dyadic)(L:Nat):Nat->Nat->Nat×Nat×Dyadic->Nat×Nat×Dyadic
 |0,_,s=>s
 |k+1,a,s=>sL sq L k (a+1) (ud sq a (L-(a+1)) (a+1) s)
def cZ (sq:Nat->Nat->Dyadic)(L:Nat):Nat×Nat×Dyadic:=sL sq L L 0 (0,1,sq 0 1)
def avC (sq:Nat->Nat->Dyadic)(Q:Nat×Nat×Dyadic->Prop)(L a k b:Nat)(s:Nat×Nat×Dyadic)(hs:Q s)(hab:a<b)(hb:b+k<=L)(h:∀a b,a<b->b<L->Q (a,b,sq a b)):Q (ud sq a k b s):=by
 induction k generalizing b s with
 |zero=>exact hs
 | succ k ih=>
   unfold ud;refine ih (b+1) _ ?_ zo zo;unfold yE;split
   . exact h a b hab zo
   . exact hs
def avA (sq:Nat->Nat->Dyadic)(Q:Nat×Nat×Dyadic->Prop)(L k a:Nat)(s:Nat×Nat×Dyadic)(hs:Q s)(hb:a+k<=L)(h:∀a b,a<b->b<L->Q (a,b,sq a b)):Q (sL sq L k a s):=by
 induction k generalizing a s with
 |zero=>exact hs
 |succ k ih=>unfold sL;exact ih (a+1) _ (avC sq Q L a _ (a+1) s hs zo zo h) zo
def yD (sq:Nat->Nat->Dyadic)(L:Nat)(hL:2<=L):(cZ sq L).1<(cZ sq L).2.1/\(cZ sq L).2.1<L/\(cZ sq L).2.2=sq (cZ sq L).1 (cZ sq L).2.1:=
 avA sq (λs=>s.1<s.2.1/\s.2.1<L/\s.2.2=sq s.1 s.2.1) L L 0 (0,1,sq 0 1) ⟨Nat.zero_lt_one,hL,rfl⟩ zo (λa b h1 h2=>⟨h1,h2,rfl⟩)
abbrev IC (s:Nat×Nat×Dyadic):List Value:=[af (s.1:Int),af (s.2.1:Int),ag (az (dN s.2.2)),ah (nt (dN s.2.2).natAbs),af (dE s.2.2)]
def At.drew {w:World}{a:Option Addr}{cs:List Value}(h:At w a cs):At w.drew a cs:=h
def At.alloc {w:World}{a:Option Addr}{cs:List Value}(h:At w a cs)(o:Obj):At (w.alloc o) a cs:=h.below zl
def azS (rows:List (List Raw))(n B x y:Nat)(a:Option Addr)(cap:Nat)(a':Option Addr)(cap':Nat)(D:Dyadic)(w:World)(hx:x<rows.length)(hy:y<rows.length)(hn:n<=8)(hrow:∀r∈rows,r.length=n)(hfit:∀r∈rows,∀c∈r,Fit B c)(hB:B<=10000000)
 (hD:cH rows n x y=D) (ha:At w a (rows[x].flatMap bu)) (ha':At w a' (rows[y].flatMap bu)) (hT:aC w):
 Cv 160 #[.slice a rows[x].length cap,.slice a' rows[y].length cap'] w (bT D):=by
 have h1:=hrow _ (List.getElem_mem hx);have h2:=hrow _ (List.getElem_mem hy);have e1:rows.getD x []=rows[x]:=by simp[hx]
 have e2:rows.getD y []=rows[y]:=by simp[hy]
 unfold cH at hD;rw[e1,e2]at hD;rw[h1,h2,<-hD];exact azR a n cap rows[x] a' cap' rows[y] B w h1 h2 hn ha ha' (hfit _ (List.getElem_mem hx)) (hfit _ (List.getElem_mem hy)) hB hT
def ai6 {rows:List (List Raw)}{n B:Nat}(hfit:∀r∈rows,∀c∈r,Fit B c)(x y:Nat):Sm (2*B+2+n) (cH rows n x y):=by
 have h:∀z,∀c∈(rows.getD z []).map au,Sm B c:=λz c hc=>by
  obtain⟨u,hu,rfl⟩:=List.mem_map.1 hc;by_cases hz:z<rows.length
  . have e:rows.getD z []=rows[z]:=by simp[hz]
    rw[e]at hu;exact(hfit _ (List.getElem_mem hz) u hu).2
  . have e:rows.getD z []=[]:=by simp[List.getD_eq_getElem?_getD,List.getElem?_eq_none (by omega:rows.length<=z)]
    rw[e]at hu;cases hu
 exact ai7 (h x) (h y) n
def avI (a:Option Addr)(L cap n:Nat)(rows:List (List Raw))(B:Nat)(w:World)(hL:rows.length=L)(hL2:2<=L)(IW:L<=9)(hn:n<=8)(hrow:∀r∈rows,r.length=n)(ha:bJ w a rows)
 (hfit:∀r∈rows,∀c∈r,Fit B c) (hB:B<=10000000) (hT:aC w):
 Cv 71 #[.slice a L cap] w (.agg (IC (cZ (cH rows n) L)).toArray):=by
 obtain⟨sq,tX⟩:=aB (cH rows n);have hsm:∀x y,Sm (2*B+10) (sq x y):=λx y=>by rw[<-tX];exact(ai6 hfit x y).mono zo
 have hcall:∀x y (hx:x<rows.length) (hy:y<rows.length) (a1:Option Addr) (c1:Nat) (a2:Option Addr) (c2:Nat) (W:World),At W a1 (rows[x].flatMap bu)->At W a2 (rows[y].flatMap bu)->aC W->
  Cv 160 #[.slice a1 rows[x].length c1,.slice a2 rows[y].length c2] W (bT (sq x y)):=λx y hx hy a1 c1 a2 c2 W h1 h2 h3=>
  azS rows n B x y a1 c1 a2 c2 (sq x y) W hx hy hn hrow hfit hB (by rw[<-tX]) h1 h2 h3
 obtain⟨F,hF⟩:=aB (cZ (cH rows n) L);rw[hF];rw[tX]at hF;obtain⟨HL,Ha,DU,lK,HF,HT,eK⟩:=jL hL ha hsm hcall hF hT hT;clear hL ha hsm hcall hF hT hfit hrow tX;obtain⟨X,hX⟩:=aB (sq 0 1);have HX:=aj hX;clear hX;obtain⟨W,cE,ae,ak⟩:=il w 128 [af 0,af 0,ag false,.string ⟨#[]⟩,af 0];have HT:Hid (aC W):=HT.out.below ae.1.out;have HS:Hid (bJ W a rows):=Ha.out.below ae.1.out;go_enter Tryz.func71,Tryz.ntmps71;have lr:=ae.2.1.out.lt;obtain⟨b0,o0,a1,c1,kq,hc0,kX⟩:=HS.out.row 0 (by rw[HL.out];omega);obtain⟨kJ,nu,a2,c2,dh,hc1,kY⟩:=HS.out.row 1 (by rw[HL.out];omega);obtain⟨rfl,rfl⟩:kJ=b0/\nu=o0:=by rw[kq]at dh;simp at dh;exact⟨dh.1.symm,dh.2.symm⟩
 clear dh;have i0:=sJ L cap 0 0 kq zo rfl;have i1:=sJ L cap 1 1 kq zo rfl;rw[Nat.mul_one]at i0 i1;rw[Nat.add_zero]at i0 hc0;have kF:=aj kq;have EY:kJ<W.heap.size:=World.block_lt_of_cell? W _ hc0;have yq:=λW'=>lK.out 0 1 (by rw[HL.out];omega) (by rw[HL.out];omega) a1 c1 a2 c2 W';rw[HX.out]at yq;obtain⟨n0,hn0⟩:=aB ((rows[0]'(by rw[HL.out];omega)).length);obtain⟨n1,gA⟩:=aB ((rows[1]'(by rw[HL.out];omega)).length);rw[hn0]at hc0;rw[gA]at hc1;simp only[hn0,gA]at yq;obtain⟨BG,kG,mE⟩:=cw yq kX kY;have Hu:Hid (aZ W kJ nu [.slice a1 n0 c1]):=λj hj=>by
  obtain rfl:j=0:=by simp at hj;omega
  exact hc0
 have Hv:Hid (aZ W kJ (nu+1) [.slice a2 n1 c2]):=λj hj=>by
  obtain rfl:j=0:=by simp at hj;omega
  exact hc1
 clear yq kX kY kq hn0 gA hc0 hc1;go_upto_region 1 with fail
 go_cut[3] (λs3 wx=>∃g:Nat,s3=.pointer (some ⟨g,0,none⟩)/\W.heap.size<=g/\ar wx g 128 (IC (0,1,X))/\Bw W wx);case first=>
  have Hb:=ae.1;have Hr:=ae.2.1;obtain⟨ae,ak⟩:=qZ (Hu.an<|Hv.an trivial);have HT:Hid (aC W):=HT.out;obtain⟨Hu,Hv,_⟩:=ae;have u0:=Hu.out.w1;have v0:=Hv.out.w1;refine YB (λw'=>aH w' kJ nu (.slice a1 n0 c1)/\aH w' kJ (nu+1) (.slice a2 n1 c2)) (λi=>Nat.blt i 10) 7 9 [(8,true),(9,false),(10,false)] [(7,false),(8,true),(10,false)] [0,1,2,3,4,5,6] zk zk rfl rfl zk zc ⟨u0,v0⟩ ?_;iterate 7 (refine Xg rfl rfl (v:=?_) (λw' hw'=>?_) ?_;rotate_left;(focus obtain⟨q0,q1⟩:=hw';go_simp;try with_reducible rfl))
  refine Xf rfl rfl rfl rfl (λK hK=>?_) (λK hK=>?_)
  . go_simp;with_reducible refine(BG.out _ (by first|exact kG.out|exact At.drew kG.out) (by first|exact mE.out|exact At.drew mE.out) (by first|exact HT.out|exact aC.drew HT.out|exact aC.alloc HT.out _|exact aC.drew (aC.alloc HT.out _) |exact aC.alloc (aC.drew HT.out) _)).mono ?_
    rintro e w5 ⟨rfl,hq⟩;have cS:Bw W w5:=cu hq;refine hK _ _ ⟨cell_later cS u0,cell_later cS v0⟩ ?_
    refine pT rfl rfl ?_
    refine aM rfl rfl (λK hK=>?_);go_simp;refine hK _ _ (λ_=>⟨aU (cell_later cS u0),aU (cell_later cS v0)⟩) ?_
    refine aM rfl rfl (λK hK=>?_);go_simp;refine hK _ _ (λh=>absurd h zd) ?_;simp only[bH];go_wp2_with fail;go_meet;exact⟨w5.heap.size,rfl,cS.size,ar.new _ _ _,cS.alloc cS.size _⟩
  . go_simp;refine hK _ _ ⟨aU u0,aU v0⟩ ?_
    refine aM rfl rfl (λK hK=>?_);go_simp;with_reducible refine(BG.out (W.alloc (.cells #[af 0,af 0,ag false,.string ⟨#[]⟩,af 0] 128)).drew (kG.out.alloc _).drew (mE.out.alloc _).drew (by first|exact HT.out|exact aC.drew HT.out|exact aC.alloc HT.out _|exact aC.drew (aC.alloc HT.out _) |exact aC.alloc (aC.drew HT.out) _)).mono ?_
    rintro e w5 ⟨rfl,hq⟩;have cS:Bw W w5:=uK hq;have Hn:ar w5 W.heap.size 128 [af 0,af 0,ag false,.string ⟨#[]⟩,af 0]:=ar.below (ar.new W.drew 128 [af 0,af 0,ag false,.string ⟨#[]⟩,af 0]) hq;have n0':=Hn.cell 0;have CN:=Hn.cell 1;have CO:=Hn.cell 2;have n3':=Hn.cell 3;have n4':=Hn.cell 4;have mP:=Hn.free 0;have mQ:=Hn.free 1;have mR:=Hn.free 2;have pj:=Hn.free 3;have pk:=Hn.free 4;refine hK _ _ (λ_=>⟨cell_later cS u0,cell_later cS v0⟩) ?_
    refine pT rfl rfl ?_
    refine aM rfl rfl (λK hK=>?_);go_simp;refine hK _ _ (λh=>absurd h zd) ?_;simp only[bH];go_wp2_with fail;go_meet;exact⟨W.heap.size,rfl,Nat.le_refl _,((((Hn.set 0 _).set 1 _).set 2 _).set 3 _).set 4 _,((((cS.sc W.heap.size 0 (Nat.le_refl _) _).sc W.heap.size 1 (Nat.le_refl _) _).sc W.heap.size 2 (Nat.le_refl _) _).sc W.heap.size 3 (Nat.le_refl _) _).sc W.heap.size 4 (Nat.le_refl _) _⟩
 case rest=>
  obtain⟨g,rfl,hg,qd,qb⟩:=hcut;obtain⟨Hd,Hr,Hb⟩:=cw qd (ae.2.1.out.below qb) (aI ae.1.out qb);have lg:=Hd.out.lt;have lr2:=Hr.out.lt;have XU:=qb.size;clear qd qb i0 i1 BG kG mE Hu Hv kF HS HT;have Zq:Hid (Sm (2*B+10) X):=by rw[<-HX.out];exact DU.out 0 1
  have Lj:Hid (sL sq L (L-0) 0 (0,1,X)=F):=by rw[<-HX.out];exact HF.out
  go_wp2_with fail;go_loopw[18] (λx wr=>∃(k:Nat) (s:Nat×Nat×Dyadic),k<=L/\x=af (k:Int)/\sL sq L (L-k) k s=F/\Sm (2*B+10) s.2.2/\ar wr w.heap.size 128 [af 0,af 0,ag false,.string ⟨#[]⟩,af 0]/\ar wr g 128 (IC s)/\Bw w wr) (λx _=>L-(intOf x).toNat);case atStart=>exact⟨0,(0,1,X),Nat.zero_le _,rfl,Lj.out,Zq.out,Hr.out,Hd.out,Hb.out⟩
  case round=>
   clear Hr Hd Hb Lj Zq;obtain⟨k,s,hk,rfl,hF,hs,pr,pd,pb⟩:=hrel;by_cases hlt:k<L
   . obtain⟨Hr,Hd,Hb,Hs⟩:=dv pr pd pb hs;have Gb:Hid (sL sq L (L-(k+1)) (k+1) (ud sq k (L-(k+1)) (k+1) s)=F):=by rw[show L-k=L-(k+1)+1 by omega]at hF;exact hF
     clear pr pd pb hs hF;go_wp2_with fail;go_loopw[5] (λx wr=>∃(b:Nat) (s:Nat×Nat×Dyadic),b<=L/\k<b/\x=af (b:Int)/\sL sq L (L-(k+1)) (k+1) (ud sq k (L-b) b s)=F/\Sm (2*B+10) s.2.2/\ar wr w.heap.size 128 [af 0,af 0,ag false,.string ⟨#[]⟩,af 0]/\ar wr g 128 (IC s)/\Bw w wr) (λx _=>L-(intOf x).toNat);case atStart=>exact⟨k+1,s,by omega,by omega,by go_num,Gb.out,Hs.out,Hr.out,Hd.out,Hb.out⟩
     case round=>
      clear Hr Hd Hb Gb Hs;obtain⟨b,s,hb1,hb2,rfl,hF,hs,pr,pd,pb⟩:=hrel;obtain⟨Hr,Hd,Hb,Hs,YT⟩:=gT pr pd pb hs hF;clear pr pd pb hs hF;by_cases bA:b<L
      . obtain⟨b0,o0,a1,c1,kq,hc0,kX⟩:=(Ha.out.below Hb.out).row k (by rw[HL.out];omega);obtain⟨kJ,nu,a2,c2,dh,hc1,kY⟩:=(Ha.out.below Hb.out).row b (by rw[HL.out];omega);obtain⟨rfl,rfl⟩:kJ=b0/\nu=o0:=by rw[kq]at dh;simp at dh;exact⟨dh.1.symm,dh.2.symm⟩
        clear dh;have i0:=sJ L cap k (k:Int) kq hlt rfl;have i1:=sJ L cap b (b:Int) kq bA rfl;rw[Nat.mul_one]at i0 i1;have yq:=λW'=>lK.out k b (by rw[HL.out];omega) (by rw[HL.out];omega) a1 c1 a2 c2 W';obtain⟨Y,hY⟩:=aB (sq k b);have lS:=DU.out k b;rw[hY]at yq lS;obtain⟨n0,hn0⟩:=aB ((rows[k]'(by rw[HL.out];omega)).length);obtain⟨n1,gA⟩:=aB ((rows[b]'(by rw[HL.out];omega)).length);rw[hn0]at hc0;rw[gA]at hc1;simp only[hn0,gA]at yq;obtain⟨BG,kG,mE,HY,Gp,HT⟩:=gU yq kX kY hY lS (eK.out.below Hb.out);have Hu:Hid (aZ wr kJ (nu+k) [.slice a1 n0 c1]):=λj hj=>by
         obtain rfl:j=0:=by simp at hj;omega
         exact hc0
        have Hv:Hid (aZ wr kJ (nu+b) [.slice a2 n1 c2]):=λj hj=>by
         obtain rfl:j=0:=by simp at hj;omega
         exact hc1
        clear yq kX kY kq hn0 gA hc0 hc1 hY lS;have ls1:=Hr.out.lt;have ls2:=Hd.out.lt;go_upto_region 8 with fail
        go_cut[6] (λs6 wx=>∃g':Nat,s6=.pointer (some ⟨g',0,none⟩)/\wr.heap.size<=g'/\ar wx g' 30 (bG Y)/\Bw wr wx);case first=>
         obtain⟨ae,ak⟩:=qZ (Hu.an<|Hv.an trivial);obtain⟨Hu,Hv,_⟩:=ae;have u0:=Hu.out.w1;have v0:=Hv.out.w1;refine YB (λw'=>aH w' kJ (nu+k) (.slice a1 n0 c1)/\aH w' kJ (nu+b) (.slice a2 n1 c2)) (λi=>Nat.blt i 10) 8 9 [(9,false),(10,false)] [(8,false),(10,false)] [0,1,2,3,4,5,6,7] zk zk rfl rfl zk zc ⟨u0,v0⟩ ?_;iterate 8 (refine Xg rfl rfl (v:=?_) (λw' hw'=>?_) ?_;rotate_left;(focus obtain⟨q0,q1⟩:=hw';go_simp;try with_reducible rfl))
         refine Xf rfl rfl rfl rfl (λK hK=>?_) (λK hK=>?_)
         . go_simp;with_reducible refine(BG.out _ (by first|exact kG.out|exact At.drew kG.out) (by first|exact mE.out|exact At.drew mE.out) (by first|exact HT.out|exact aC.drew HT.out|exact aC.alloc HT.out _|exact aC.drew (aC.alloc HT.out _) |exact aC.alloc (aC.drew HT.out) _)).mono ?_
           rintro e w5 ⟨rfl,hq⟩;have cS:Bw wr w5:=cu hq;refine hK _ _ ⟨cell_later cS u0,cell_later cS v0⟩ ?_
           refine aM rfl rfl (λK hK=>?_);go_simp;refine hK _ _ (λ_=>⟨aU (cell_later cS u0),aU (cell_later cS v0)⟩) ?_
           refine aM rfl rfl (λK hK=>?_);go_simp;refine hK _ _ (λh=>absurd h zd) ?_;simp only[bH];go_wp2_with fail;go_meet;exact⟨w5.heap.size,rfl,cS.size,ar.new _ _ _,cS.alloc cS.size _⟩
         . go_simp;refine hK _ _ ⟨aU u0,aU v0⟩ ?_
           refine aM rfl rfl (λK hK=>?_);go_simp;with_reducible refine(BG.out (wr.alloc (.cells #[ag false,.string ⟨#[]⟩,af 0] 30)).drew (kG.out.alloc _).drew (mE.out.alloc _).drew (by first|exact HT.out|exact aC.drew HT.out|exact aC.alloc HT.out _|exact aC.drew (aC.alloc HT.out _) |exact aC.alloc (aC.drew HT.out) _)).mono ?_
           rintro e w5 ⟨rfl,hq⟩;have cS:Bw wr w5:=uK hq;have Hn:ar w5 wr.heap.size 30 [ag false,.string ⟨#[]⟩,af 0]:=ar.below (ar.new wr.drew 30 [ag false,.string ⟨#[]⟩,af 0]) hq;obtain⟨n0',mP,CN,mQ,CO,mR⟩:=Hn.g3;refine hK _ _ (λ_=>⟨cell_later cS u0,cell_later cS v0⟩) ?_
           refine aM rfl rfl (λK hK=>?_);go_simp;refine hK _ _ (λh=>absurd h zd) ?_;simp only[bH];go_wp2_with fail;go_meet;exact⟨wr.heap.size,rfl,Nat.le_refl _,((Hn.set 0 _).set 1 _).set 2 _,((cS.sc wr.heap.size 0 (Nat.le_refl _) _).sc wr.heap.size 1 (Nat.le_refl _) _).sc wr.heap.size 2 (Nat.le_refl _) _⟩
        case rest=>
         obtain⟨g',rfl,hg',qn,qb⟩:=hcut;have Hn:=aj qn;replace Hr:=aj (Hr.out.below qb);replace Hd:=aj (Hd.out.below qb);replace Hb:=aj (aI Hb.out qb);have Dj:=aj (HT.out.below qb);clear qn qb Hu Hv kG mE BG HT i0 i1;obtain⟨si,sj,sx⟩:=s;have HfY:Hid (Ok (bE Y)):=(Gp.out.fit zo).1;have QW:Hid (Ok (bE sx)):=(Hs.out.fit zo).1;obtain⟨c,hc⟩:=aB (bg (Y-sx));have HC:Hid (bg (au (bE Y)-au (bE sx))=c):=by
          show bg (au (canon Y)-au (canon sx))=c
          rw[bF,bF];exact hc
         have YU:Hid (sL sq L (L-(k+1)) (k+1) (ud sq k (L-(b+1)) (b+1) (yE sq k b (si,sj,sx)))=F):=by have h:=YT.out;rw[show L-b=L-(b+1)+1 by omega]at h;exact h
         have hstep:yE sq k b (si,sj,sx)=if 0<c then(k,b,Y)else(si,sj,sx):=by
          unfold yE;rw[HY.out];show(if 0<bg (Y-sx)then _ else _)=_
          rw[hc]
         have jf:=aj hstep;clear hc hstep;obtain⟨ae,ak⟩:=qZ (Hd.an<|Hn.an<|Hr.an trivial);go_wp2_with fail;refine aJ (Hb.an ae) (wu _ _ _ _ _ _ c HC.out _ HfY.out QW.out Dj.out) λw7 ae ak=>?_;by_cases hc0:0<c
         . go_wp2;go_roundw;case rel=>
            refine⟨b+1,(k,b,Y),by omega,by omega,by go_num,?_,Gp.out,?_,?_,?_⟩
            . have h:=YU.out;rw[jf.out,if_pos hc0]at h;exact h
            . exact((((ae.2.2.2.1.out.so g 0 zo _).so g 1 zo _).so g 2 zo _).so g 3 zo _).so g 4 zo _
            . exact((((ae.2.1.out.set 0 _).set 1 _).set 2 _).set 3 _).set 4 _
            . exact((((ae.1.out.sc g 0 zo _).sc g 1 zo _).sc g 2 zo _).sc g 3 zo _).sc g 4 zo _
           case measure=>exact bC
         . go_wp2;go_roundw;case rel=>refine⟨b+1,(si,sj,sx),by omega,by omega,by go_num,?_,Hs.out,ae.2.2.2.1.out,ae.2.1.out,ae.1.out⟩;have h:=YU.out;rw[jf.out,if_neg zo]at h;exact h
           case measure=>exact bC
      . obtain rfl:b=L:=by omega
        go_wp2;go_roundw;case rel=>refine⟨k+1,s,by omega,by go_num,?_,Hs.out,Hr.out,Hd.out,Hb.out⟩;have h:=YT.out;rw[Nat.sub_self]at h;exact h
        case measure=>exact bC
   . obtain rfl:k=L:=by omega
     rw[Nat.sub_self]at hF;have Ll:Hid (s=F):=hF;obtain⟨si,sj,sx⟩:=s;obtain⟨Hr,Hd,Hb⟩:=cw pr pd pb;clear pr pd pb hF hs;obtain⟨ae,ak⟩:=qZ (Hd.an<|Hr.an trivial);go_wp2;refine dX (aV wr (w.heap.size) 0 [af (si:Int),af (sj:Int),ag (az (dN sx)),ah (nt (dN sx).natAbs),af (dE sx)]) aX ?_;intro w9 hs0;have ae:=bU hs0 (Hb.an ae);simp only[bV,List.set]at ae;have ak:=qC ae;refine bodyPost_ret (v:=.agg (IC (si,sj,sx)).toArray) (by simp[results,Tryz.results71,go_sem,ak]) rfl ⟨by rw[<-Ll.out],ae.1.out⟩
def Tryz.aGK :(Tryz.prog.info? 36).map (λi=>(i.zero,i.size,i.bytes))=some (some (.slice none 0 0),1,24):=by kernel_rfl
def lR (r:List Raw):List Raw:=r.map λx=>canon (au x)
def acU (r:List Raw):(lR r).length=r.length:=by simp[lR]
def ase (r:List Raw):(lR r).flatMap bu=dC (r.map au):=by rw[sf,List.map_map];rfl
def Own2 (e:TypeId)(w:World)(base:Nat)(R:List (List Dyadic))(k:Nat)(v:Value):Prop:=
 ∃vals:List Value,vals.length=k/\w.ownsRow base e 1 v k vals/\∀i (h:i<vals.length),∃a c,vals[i]=.slice a (R.getD i []).length c/\At w a (dC (R.getD i []))/\∀b o,a=some ⟨b,o,none⟩->some b≠v.ownBlock/\b<w.heap.size
def Own2.nil (e:TypeId)(w:World)(base:Nat)(R:List (List Dyadic)):Own2 e w base R 0 (.slice none 0 0):=
 ⟨[],rfl,World.ownsRow_nil _ _ _ _,λ_ h=>absurd h (Nat.not_lt_zero _)⟩
def Own2.below {e:TypeId}{w w':World}{base k:Nat}{R:List (List Dyadic)}{v:Value}(h:Own2 e w base R k v)(hb:Bw w w'):Own2 e w' base R k v:=by obtain⟨vals,hl,ho,hi⟩:=h;refine⟨vals,hl,ownsRow_below ho hb,λi h=>?_⟩;obtain⟨a,c,h1,h2,h3⟩:=hi i h;exact⟨a,c,h1,h2.below hb,λb o e=>⟨(h3 b o e).1,Nat.lt_of_lt_of_le (h3 b o e).2 hb.size⟩⟩
def Own2.push {e:TypeId}{w w':World}{base k:Nat}{R:List (List Dyadic)}{v v':Value}{vals:List Value}(hl:vals.length=k)(hi:∀i (h:i<vals.length),∃a c,vals[i]=.slice a (R.getD i []).length c/\At w a (dC (R.getD i []))/\∀b o,a=some ⟨b,o,none⟩->some b≠v.ownBlock/\b<w.heap.size)
 {a:Option Addr} {c:Nat} (ha:At w a (dC (R.getD k []))) (hab:∀b o,a=some ⟨b,o,none⟩->some b≠v.ownBlock/\b<w.heap.size)
 (ho:w'.ownsRow base e 1 v' (k+1) (vals++[.slice a (R.getD k []).length c])) (hg:w.grownBy w' v.ownBlock) (kx:v'.ownBlock=v.ownBlock\/v'.ownBlock=some w.heap.size):Own2 e w' base R (k+1) v':=by
 have hne:∀b,some b≠v.ownBlock->b<w.heap.size->some b≠v'.ownBlock:=by
  intro b h1 h2;rcases kx with h|h
  . rw[h];exact h1
  . rw[h];intro h3;simp at h3;omega
 refine⟨_,by simp[hl],ho,λi h=>?_⟩;by_cases hk:i<vals.length
 . obtain⟨a1,c1,h1,h2,h3⟩:=hi i hk;refine⟨a1,c1,by rw[List.getElem_append_left hk];exact h1,h2.grown hg (λb o e=>(h3 b o e).1),λb o e=>⟨hne b (h3 b o e).1 (h3 b o e).2,Nat.lt_of_lt_of_le (h3 b o e).2 hg.size⟩⟩
 . have hik:i=k:=by simp at h;omega
   subst hik;refine⟨a,c,?_,ha.grown hg (λb o e=>(hab b o e).1),λb o e=>⟨hne b (hab b o e).1 (hab b o e).2,Nat.lt_of_lt_of_le (hab b o e).2 hg.size⟩⟩;rw[List.getElem_append_right zo];simp[hl]
def Pk {W:World}{base:Nat}{e:TypeId}{size:Nat}{a:Option Addr}{n c:Nat}{xs:List Value}(h:W.ownsRow base e size (.slice a n c) n xs):n<=c:=by
 rcases h.2 with⟨h1,h2⟩ |⟨g,cap,cur,h1,_,_,h2,_⟩
 . omega
 . simp at h1;omega
def Own2.tbl {e:TypeId}{w:World}{base k:Nat}{R:List (List Raw)}{v:Value}(h:Own2 e w base (R.map λr=>r.map au) k v)(hk:R.length=k):∃a c,v=.slice a k c/\k<=c/\bJ w a (R.map lR):=by
 obtain⟨vals,hl,ho,hi⟩:=h;obtain⟨a,c,hv,hat,_⟩:=dZ ho;subst hv;refine⟨a,c,rfl,Pk ho,vals,by simp[hl,hk],hat,λi h1 h2=>?_⟩;obtain⟨a1,c1,e1,e2,_⟩:=hi i h2;have hi1:i<R.length:=by simpa using h1
 have eg:(R.map λr=>r.map au).getD i []=R[i].map au:=by simp[hi1]
 rw[eg]at e1 e2;refine⟨a1,c1,?_,?_⟩
 . rw[e1];simp[acU]
 . rw[List.getElem_map,ase];exact e2
def aBo (a:Option Addr)(L cap:Nat)(rows:List (List Raw))(k0:Nat)(pa:Option Addr)(pn wY:Nat)(Pp:List Raw)(w:World)(hL:rows.length=L)(IW:L<=9)(hP:Pp.length=pn)(hP8:pn<=8)(hrow:∀r∈rows,r.length<=8)(ha:bJ w a rows)(hp:At w pa (Pp.flatMap bu))
 (hok:∀r∈rows,∀x∈r,Ok x) (Oy:∀x∈Pp,Ok x) (hT:aC w) (at9:Int) (yf:∀k:Nat,k<L->((k:Int)=at9↔k=k0)):
 Cl 76 #[.slice a L cap,af at9,.slice pa pn wY] w λe w'=>∃a' cap',e=.returned (.slice a' L cap')/\L<=cap'/\bJ w' a' ((rows.set k0 Pp).map lR)/\Bw w w':=by
 obtain⟨i0,hi,hz0,hz1,hz2⟩:=info_parts Tryz.aGt;obtain⟨j0,hj,hy0,hy1,hy2⟩:=info_parts Tryz.aGK;obtain⟨R,hR⟩:=aB (rows.set k0 Pp);obtain⟨S,hS⟩:=aB (R.map λr=>r.map au);have hRL:R.length=L:=by rw[<-hR];simp[hL]
 have hR8:∀r∈R,r.length<=8:=by
  intro r hr;rw[<-hR]at hr;rcases List.mem_or_eq_of_mem_set hr with h|h
  . exact hrow r h
  . rw[h];omega
 have adV:∀r∈R,∀x∈r,Ok x:=by
  intro r hr;rw[<-hR]at hr;rcases List.mem_or_eq_of_mem_set hr with h|h
  . exact hok r h
  . rw[h];exact Oy
 have Aq:∀(W:World) (k:Nat) (hk:k<L),Bw w W->∃b o a1 c1 n1 aq cq,∃(hk2:k<R.length),a=some ⟨b,o,none⟩/\W.cell? ⟨b,o+k,none⟩=some (.slice a1 n1 c1)/\At W aq (R[k].flatMap bu)/\((k=k0/\aq=pa/\R[k].length=pn/\cq=wY)\/(k≠k0/\aq=a1/\R[k].length=n1/\cq=c1)):=by
  intro W k hk hb;obtain⟨b,o,a1,c1,h1,h2,h3⟩:=(ha.below hb).row k zo;by_cases hkk:k=k0
  . refine⟨b,o,a1,c1,_,pa,wY,by omega,h1,h2,?_,.inl ⟨hkk,rfl,?_,rfl⟩⟩
    . have:R[k]'zo=Pp:=by simp only[<-hR,hkk,List.getElem_set_self]
      rw[this];exact hp.below hb
    . have:R[k]'zo=Pp:=by simp only[<-hR,hkk,List.getElem_set_self]
      rw[this];exact hP
  . have:R[k]'zo=rows[k]'zo:=by simp only[<-hR];exact List.getElem_set_ne (λh=>hkk h.symm) _
    refine⟨b,o,a1,c1,_,a1,c1,by omega,h1,h2,?_,.inr ⟨hkk,rfl,by rw[this],rfl⟩⟩;rw[this];exact h3
 rw[hR];obtain⟨Hi,eu,ey,dM,Hj,nK,rX,rY,HS,HRL,HR8,akQ⟩:=ie hi hz0 hz1 hz2 hj hy0 hy1 hy2 hS hRL hR8 adV;obtain⟨RS,HT,Zy⟩:=cw Aq hT yf;clear hi hz0 hz1 hz2 hj hy0 hy1 hy2 hR hS hRL hR8 adV Aq ha hp hT hL hP hrow hok Oy yf;go_enter Tryz.func76,Tryz.ntmps76;have Hb:=hbz w;go_wp2_with fail;go_loopw[7,15] (λs7 x wr=>∃(k:Nat) (v:Value),k<=L/\x=af (k:Int)/\v=s7/\Own2 36 wr w.heap.size S k v/\Bw w wr) (λ_ x _=>L-(intOf x).toNat);case atStart=>exact⟨0,_,Nat.zero_le _,rfl,rfl,Own2.nil _ _ _ _,Hb.out⟩
 case round=>
  clear Hb;obtain⟨k,v,hk,rfl,rfl,pv,pb⟩:=hrel;by_cases hlt:k<L
  . obtain⟨b1,o1,a1,c1,n1,aq,cq,hk2,hab,hc1,hat,Ao⟩:=RS.out wr k hlt pb;have pE:=sJ L cap k (k:Int) hab hlt rfl;rw[Nat.mul_one]at pE;obtain⟨Q,hQ⟩:=aB (R[k]);rw[hQ]at hat Ao;have Uh:=HR8.out _ (List.getElem_mem hk2);have Uj:=akQ.out _ (List.getElem_mem hk2);rw[hQ]at Uh Uj;obtain⟨Z,hZ⟩:=aB (Q.map au);have Aa:S.getD k []=Z:=by rw[<-HS.out,<-hZ,<-hQ];simp[hk2]
    have hQl:Q.length<=8:=Uh;obtain⟨n,hn⟩:=aB Q.length;rw[hn]at hQl Ao;obtain⟨dL,akN,HZ,Dh,Hor,Hn,bo,gX⟩:=jZ hat Uj hZ Aa Ao hn pb pv;clear hat Uj hZ Aa Ao hn pb pv hQ hab Uh;have kD:=bo.out.size;go_upto_if 22 with fail
    go_cut[9] (λs9 wx=>s9=.slice aq n cq/\wx=wr);case first=>
     rcases Hor.out with⟨rfl,rfl,rfl,rfl⟩ |⟨h1,rfl,rfl,rfl⟩
     . obtain rfl:=(Zy.out k hlt).2 rfl;go_wp2_with fail;go_meet;exact⟨rfl,rfl⟩
     . have h3:¬(k:Int)=at9:=λh=>h1 ((Zy.out k hlt).1 h);have h2:((k:Int)==at9)=false:=by simpa using h3
       go_wp2_with fail;go_meet;exact⟨rfl,rfl⟩
    case rest=>
     obtain⟨rfl,rfl⟩:=hcut;clear pE hc1;go_wp2_with fail;go_loopw[10,26] (λyL x wr=>∃(j:Nat) (v2:Value),j<=n/\x=af (j:Int)/\v2=yL/\wr.ownsRow wc.heap.size 30 3 v2 j (dC (Z.take j))/\Bw wc wr) (λ_ x _=>n-(intOf x).toNat);case atStart=>exact⟨0,_,Nat.zero_le _,rfl,rfl,World.ownsRow_nil _ _ _ _,Below.refl _ _⟩
     case round=>
      obtain⟨j,v2,hj,rfl,rfl,ho,hb2⟩:=hrel;by_cases bA:j<n
      . have h1:j<Q.length:=by rw[Hn.out];exact bA
        obtain⟨s,m,e,hx⟩:=sk (Q[j]);have hok:=akN.out _ (List.getElem_mem h1);rw[hx]at hok;obtain⟨X,hX⟩:=aB (au (s,m,e));have bR:Hid (dC (Z.take (j+1))=dC (Z.take j)++(bG X)):=by
         show _=_
         rw[<-HZ.out,List.take_succ_eq_append_getElem (by simpa using h1),Eh];congr 1;simp only[List.getElem_map,hx,hX];rfl
        obtain⟨b2,o2,dG,p0,p1,p2⟩:=(dL.out.below hb2).num j h1 hx;have kv:=yz n cq j (j:Int) dG bA rfl;obtain⟨HX,Qe,Ho,cX,Dj⟩:=gT hX hok ho hb2 ((HT.out.below bo.out).below hb2);have yO:=hb2.size;have Hp:Hid (aZ wr b2 (o2+j*3) [ag s,ah m,af e]):=kE p0 p1 p2;clear hX hok ho hb2 hx dG p0 p1 p2;have Hb:=hbz wr;obtain⟨ae,ak⟩:=qZ (Hp.an trivial);have p1:wr.cell? ⟨b2,o2+j*3+1,none⟩=some (ah m):=ae.1.out.cell 1 zm;have p0:wr.cell? ⟨b2,o2+j*3,none⟩=some (ag s):=ae.1.out.cell 0 zm;have p2:wr.cell? ⟨b2,o2+j*3+2,none⟩=some (af e):=ae.1.out.cell 2 zm;have P0:=p0;have P1:=p1;have P2:=p2;obtain⟨W4,kV,aR,ae,ak⟩:=bX wr (Hb.an ae) 30 [ag s,ah m,af e];have HT:Hid (aC W4):=Dj.out.below ae.2.1.out;go_wp2_with fail;refine aJ (HT.an ae) (pq s m e X HX.out _ Qe.out HT.out) λw5 ae ak=>?_;obtain⟨W6,pu,aR,ae,ak⟩:=bX w5 ae 30 (bG X);have bW:=ownsRow_below Ho.out ae.2.2.2.1.out;have jq:=ae.2.2.2.1.out.size;have hnews:=ji ae.1.out;skip
        go_wp2_with (at_builtin;refine wpList_append_own_at _ rfl _ _ 36 rfl wc.heap.size 30 i0 _ 3 32 Tryz.underlying36 Hi.out eu.out ey.out dM.out rfl zd v2 j (dC (Z.take j)) rfl bW ⟨w5.heap.size,0,none⟩ 1 1 (bG X) rfl rfl hnews zy zx zo zo ?_;intro v' w7 eQ fL _ _;obtain⟨g',rp,rfl⟩:=ownsRow_succ eQ);go_roundw;case rel=>
         refine⟨j+1,_,by omega,by go_num,rfl,?_,?_⟩
         . rw[bR.out];exact eQ
         . exact(aI cX.out ae.2.2.2.1.out).grown fL zo (λj e=>eo bW j e)
        case measure=>exact bC
      . obtain rfl:j=n:=by omega
        have rA:Z.take j=Z:=List.take_of_length_le (by rw[<-HZ.out];simp[Hn.out]);rw[rA]at ho;obtain⟨a2,cap2,rfl,jD,dG⟩:=dZ ho;have gz:=ho.lt;obtain⟨vals,hvl,hov,pK⟩:=gX.out.below hb2;have Hb:=hbz wr;obtain⟨_,_,vw,_⟩:=gX.out;have hvs:=vw.lt;have hin:∀b o,a2=some ⟨b,o,none⟩->some b≠v.ownBlock/\b<wr.heap.size:=by intro b o e;subst e;have h1:=gz b rfl;refine⟨λh2=>?_,h1.2⟩;have h3:=hvs b h2.symm;omega
        obtain⟨uw,xy,uE,xK,eN,cX⟩:=gU hin jD hvl pK hov hb2;have yO:=hb2.size;clear hin jD hvl pK hov vw hvs hb2 dG gz rA ho bA hj;obtain⟨W6,pu,aR,ae,ak⟩:=bX wr (Hb.an trivial) 36 [.slice a2 j cap2];have bW:=ownsRow_below eN.out ae.2.1.out;have jq:=ae.2.1.out.size;have hnews:∀i u,([.slice a2 j cap2]:List Value)[i]?=some u->W6.cell? ((⟨wr.heap.size,0,none⟩:Addr).add i)=some u:=ji ae.1.out;skip
        go_wp2_with (at_builtin;refine wpList_append_own_at _ rfl _ _ 26 rfl w.heap.size 36 j0 _ 1 24 Tryz.underlying26 Hj.out nK.out rX.out rY.out rfl zd v k vals rfl bW ⟨wr.heap.size,0,none⟩ 1 1 [.slice a2 j cap2] rfl rfl hnews zy zx zo zo ?_;intro v' w7 eQ fL _ kx;obtain⟨g',rp,rfl⟩:=ownsRow_succ eQ);go_roundw;case rel=>
         refine⟨k+1,_,by omega,by go_num,rfl,?_,?_⟩
         . refine Own2.push (a:=a2) (c:=cap2) uE.out (w:=W6) ?_ ?_ ?_ ?_ fL kx
           . intro i h;obtain⟨a,c,h1,h2,h3⟩:=xK.out i h;exact⟨a,c,h1,h2.below ae.2.1.out,λb o e=>⟨(h3 b o e).1,Nat.lt_of_lt_of_le (h3 b o e).2 jq⟩⟩
           . rw[Dh.out];exact xy.out.below ae.2.1.out
           . exact λb o e=>⟨(uw.out b o e).1,Nat.lt_of_lt_of_le (uw.out b o e).2 jq⟩
           . rw[Dh.out,<-HZ.out,List.length_map,Hn.out];exact eQ
         . exact(aI (aI bo.out cX.out) ae.2.1.out).grown fL zo (λj e=>eo bW j e)
        case measure=>exact bC
  . obtain rfl:k=L:=by omega
    have hlen:R.length=k:=HRL.out;rw[<-HS.out]at pv;obtain⟨a2,c2,rfl,hcl,ky⟩:=Own2.tbl pv hlen;obtain⟨rV,bo⟩:=aK ky pb;clear pv pb ky hlen;go_wp2;refine bodyPost_ret (results_tmp rfl _ _ _) rfl ⟨a2,c2,rfl,hcl,rV.out,bo.out⟩
def aBp (a:Option Addr)(L cap:Nat)(rows:List (List Raw))(k0:Nat)(pa:Option Addr)(pn wY:Nat)(Pp:List Raw)(w:World)(hL:rows.length=L)(IW:L<=9)(hP:Pp.length=pn)(hP8:pn<=8)(hrow:∀r∈rows,r.length<=8)(ha:bJ w a rows)(hp:At w pa (Pp.flatMap bu))
 (hok:∀r∈rows,∀x∈r,Ok x) (Oy:∀x∈Pp,Ok x) (hT:aC w):
 Cl 76 #[.slice a L cap,af (k0:Int),.slice pa pn wY] w λe w'=>∃a' cap',e=.returned (.slice a' L cap')/\L<=cap'/\bJ w' a' ((rows.set k0 Pp).map lR)/\Bw w w':=
 aBo a L cap rows k0 pa pn wY Pp w hL IW hP hP8 hrow ha hp hok Oy hT _ (λk _=>by omega)
def avE {rows:List (List Raw)}{n B L:Nat}(hfit:∀r∈rows,∀c∈r,Fit B c)(hL:2<=L):Sm (2*B+2+n) (cZ (cH rows n) L).2.2:=by rw[(yD (cH rows n) L hL).2.2];exact ai6 hfit _ _
def Wz (a:Option Addr)(L cap n:Nat)(rows:List (List Raw))(B:Nat)(w:World)(hL:rows.length=L)(hv:lF rows=n)(hn:1<=n)(ha:bJ w a rows)
 (hfit:∀r∈rows,∀c∈r,Fit B c) (hB:B<=10000000) (hT:aC w):
 Cv 17 #[.slice a L cap] w (.tuple #[af ((cZ (cH rows n) L).1:Int),af ((cZ (cH rows n) L).2.1:Int),bT (cZ (cH rows n) L).2.2,af 0]):=by
 obtain⟨c1,c2,c3,c4⟩:=FH hv zo;have hvars:=λW=>λ(h:bJ W a rows)=>Yu a L cap rows W hL zo h;have Cq:=λW=>λ(h:bJ W a rows) (hT:aC W)=>avI a L cap n rows B W hL zo zo zo (λr hr=>by have:=c4 r hr;omega) h hfit hB hT;rw[hv]at hvars;obtain⟨⟨i,j,X⟩,hF⟩:∃F,cZ (cH rows n) L=F:=⟨_,rfl⟩;simp only[hF]at Cq;rw[hF];obtain⟨anI,Rm,Ha,HT⟩:=dv hvars Cq ha hT;have h0:((n:Int)==0)=false:=by simp;omega
 have h0':¬(n:Int)=0:=by omega
 clear hvars Cq ha hT hF hfit hv c1 c2 c3 c4 hL;obtain⟨W,cE,ae,ak⟩:=il w 30 [ag false,.string ⟨#[]⟩,af 0];go_enter Tryz.func17,Tryz.ntmps17;go_wp2_with fail;refine aJ ae (anI.out _ (Ha.out.below ae.1.out)) λw1 ae ak=>?_;go_wp2_with fail;refine aJ ae (Rm.out _ (Ha.out.below ae.1.out) (HT.out.below ae.1.out)) λw2 ae ak=>?_;obtain⟨w3,aDu,aR,ae,ak⟩:=bX w2 ae 128 [af (i:Int),af (j:Int),ag (az (dN X)),ah (nt (dN X).natAbs),af (dE X)];go_wp2_with fail;refine fT 10 ae (fH 12 0x161413110f0d0b0907050301) ?_;refine cG ?_;have ak:=qC ae;refine qOp λK hK=>?_;go_simp;refine hK _ _ (λh=>absurd h zd) ?_
 refine cB (aV w3 (w.heap.size) 0 (bG X)) aX ?_;intro w4 hs0;have ae:=bU hs0 ae;simp only[bV,List.set]at ae;have ak:=qC ae;have ak:=qC ae;refine qOp λK hK=>?_;go_simp;refine hK _ _ (λh=>absurd h zd) ?_
 refine fR ae λak=>?_;have Hb:=ae.2.1;have r0:w4.cell? ⟨w.heap.size,0,none⟩=some (ag (az (dN X))):=ae.2.2.1.out.cell 0;have r1:w4.cell? ⟨w.heap.size,1,none⟩=some (ah (nt (dN X).natAbs)):=ae.2.2.1.out.cell 1;have r2:w4.cell? ⟨w.heap.size,2,none⟩=some (af (dE X)):=ae.2.2.1.out.cell 2;go_wp2;exact bodyPost_ret (v:=.tuple #[af (i:Int),af (j:Int),bT X,af 0]) (by simp[results,Tryz.results17,go_sem,r0,r1,r2,ak]) rfl ⟨rfl,df⟩
def midD (p q:List Raw):List Dyadic:=List.zipWith (λx y=>(au x+au y) *hp 1) p q
def ow (p q:List Raw):List Raw:=(midD p q).map canon
def ahH {p q:List Raw}(h:p.length=q.length):(midD p q).length=p.length:=by simp[midD,h]
def ahJ {p q:List Raw}(h:p.length=q.length):(ow p q).length=p.length:=by simp[ow,ahH h]
def awc (p q:List Raw)(k:Nat)(h:k<p.length)(h':k<q.length):(midD p q).take (k+1)=(midD p q).take k++[(au p[k]+au q[k]) *hp 1]:=by unfold midD;rw[List.take_succ_eq_append_getElem zi];simp
def ahI {B:Nat}{p q:List Raw}(hp':∀x∈p,Fit B x)(hq:∀x∈q,Fit B x)(hB:B<=10000000):∀x∈ow p q,Fit (B+3) x:=by
 intro x hx;unfold ow midD at hx;obtain⟨d,hd,rfl⟩:=List.mem_map.1 hx;obtain⟨i,hi,rfl⟩:=List.mem_iff_getElem.1 hd;have hi1:i<p.length/\i<q.length:=by simp at hi;omega
 rw[List.getElem_zipWith];have h1:=Sm.mul (Sm.add (hp' _ (List.getElem_mem hi1.1)).2 (hq _ (List.getElem_mem hi1.2)).2) (EI 1);exact(h1.mono (show B+1+(1+1)<=B+3 by omega)).fit zo
def att (a:Option Addr)(L cap n:Nat)(rows:List (List Raw))(B:Nat)(i j:Nat)(Y:Dyadic)(w:World)(hL:rows.length=L)(hv:lF rows=n)(hn:1<=n)(ha:bJ w a rows)
 (hfit:∀r∈rows,∀c∈r,Fit B c) (hB:B<=10000000) (hT:aC w) (hF:cZ (cH rows n) L=(i,j,Y)):
 Cl 19 #[.slice a L cap] w λe w'=>∃a1 c1 a2 c2,e=.returned (.tuple #[.slice a1 L c1,.slice a2 L c2,af 0])/\L<=c1/\L<=c2/\
  bJ w' a1 ((rows.set j (ow (rows.getD i []) (rows.getD j []))).map lR)/\bJ w' a2 ((rows.set i (ow (rows.getD i []) (rows.getD j []))).map lR)/\Bw w w':=by
 obtain⟨i0,hi,hz0,hz1,hz2⟩:=info_parts Tryz.aGt;obtain⟨c1,c2,c3,c4⟩:=FH hv zo;have Cq:=λW=>λ(h:bJ W a rows) (hT:aC W)=>Wz a L cap n rows B W hL hv hn h hfit hB hT;have hinv:=yD (cH rows n) L zo;rw[hF]at hinv;simp only[hF]at Cq;obtain⟨hij,Jr,hY⟩:=hinv;dsimp only at hij Jr hY;have hiL:i<L:=by omega
 obtain⟨p,hp'⟩:=aB (rows.getD i []);obtain⟨q,hq'⟩:=aB (rows.getD j []);have ep:rows[i]'zo=p:=by rw[<-hp'];simp[hL,hiL]
 have eq:rows[j]'zo=q:=by rw[<-hq'];simp[hL,Jr]
 have hpl:p.length=n:=by have:=c4 p (by rw[<-ep];exact List.getElem_mem _);omega
 have EJ:q.length=n:=by have:=c4 q (by rw[<-eq];exact List.getElem_mem _);omega
 have tV:∀x∈p,Fit B x:=by rw[<-ep];exact hfit _ (List.getElem_mem _)
 have VH:∀x∈q,Fit B x:=by rw[<-eq];exact hfit _ (List.getElem_mem _)
 rw[hp',hq'];have VY:=λ(k:Nat) (pa:Option Addr) (pc:Nat) (W:World) (h1:bJ W a rows) (h2:At W pa (dC (midD p q))) (h3:aC W)=>aBp a L cap rows k pa n pc (ow p q) W hL zo (by rw[ahJ zo];exact hpl) zo (λr hr=>by have:=c4 r hr;omega) h1 (by unfold ow;rw[<-sf];exact h2) (λr hr x hx=>(hfit r hr x hx).1) (λx hx=>(ahI tV VH hB x hx).1) h3;obtain⟨A1,IJ⟩:=aB ((rows.set j (ow p q)).map lR);obtain⟨A2,tE⟩:=aB ((rows.set i (ow p q)).map lR);have ng:=VY j;have ma:=VY i;rw[IJ]at ng⊢;rw[tE]at ma⊢;have hrow:=λ(W:World) (h:bJ W a rows)=>h.row i zo;have hrow2:=λ(W:World) (h:bJ W a rows)=>h.row j zo;simp only[ep,hpl]at hrow;simp only[eq,EJ]at hrow2;obtain⟨Z,hZ⟩:=aB (midD p q);have hst:∀k (h:k<p.length) (h':k<q.length),Z.take (k+1)=Z.take k++[(au p[k]+au q[k]) *hp 1]:=by rw[<-hZ];exact awc p q
 have Jd:Z.length=n:=by rw[<-hZ,ahH zo,hpl]
 rw[hZ]at ma ng;obtain⟨Hi,eu,ey,dM,Rm,Ha,HT,zn,Sk,qQ,ani,bR⟩:=ie hi hz0 hz1 hz2 Cq ha hT ma ng hrow hrow2 hst;obtain⟨yT,uA,Hql,BD,Hqf⟩:=gT Jd hpl EJ tV VH;have hn8:n<=8:=by omega
 clear hi hz0 hz1 hz2 Cq ha hT ma ng VY hrow hrow2 hst Jd hpl EJ tV VH ep eq hp' hq' hY hF hfit hv c1 c2 c3 c4 hL hZ IJ tE;have Hb:=hbz w;go_enter Tryz.func19,Tryz.ntmps19;go_wp2_with fail;refine aJ (Hb.an trivial) (Rm.out _ (Ha.out.below Hb.out) (HT.out.below Hb.out)) λw1 ae ak=>?_;obtain⟨w2,aDt,aR,ae,ak⟩:=bX w1 ae 30 (bG Y);obtain⟨b0,o0,a1,c1,kq,hc0,kX⟩:=qQ.out w2 (Ha.out.below ae.2.1.out);obtain⟨kJ,nu,a2,c2,dh,hc1,kY⟩:=ani.out w2 (Ha.out.below ae.2.1.out);obtain⟨rfl,rfl⟩:kJ=b0/\nu=o0:=by rw[kq]at dh;simp at dh;exact⟨dh.1.symm,dh.2.symm⟩
 clear dh;have Kk:=sJ L cap i (i:Int) kq hiL rfl;have ub:=sJ L cap j (j:Int) kq Jr rfl;rw[Nat.mul_one]at Kk ub;obtain⟨qu,Dp,kG,mE,kF⟩:=gT hc0 hc1 kX kY kq;clear hc1 kX kY kq;have yO:=ae.2.1.out.size;go_wp2_with fail;go_loopw[8,25] (λs8 x wr=>∃(k:Nat) (v:Value),k<=n/\x=af (k:Int)/\v=s8/\wr.ownsRow w2.heap.size 30 3 v k (dC (Z.take k))/\Bw w2 wr) (λ_ x _=>n-(intOf x).toNat);case atStart=>exact⟨0,_,Nat.zero_le _,rfl,rfl,World.ownsRow_nil _ _ _ _,Below.refl _ _⟩
 case round=>
  clear hc0;obtain⟨k,v,hk,rfl,rfl,pv,pb⟩:=hrel;by_cases hlt:k<n
  . have k1:k<p.length:=by rw[uA.out];exact hlt
    have k2:k<q.length:=by rw[Hql.out];exact hlt
    obtain⟨sp,mp,ep,jG⟩:=sk (p[k]);obtain⟨sq,mq,eq,ua⟩:=sk (q[k]);have gy:=BD.out _ (List.getElem_mem k1);have sD:=Hqf.out _ (List.getElem_mem k2);have hst:=bR.out k k1 k2;rw[jG]at gy hst;rw[ua]at sD hst;obtain⟨D,hD⟩:=aB (au (sp,mp,ep)+au (sq,mq,eq));obtain⟨X,hX⟩:=aB (D*hp 1);rw[hD,hX]at hst;have iU:Sm (B+1) D:=by rw[<-hD];exact Sm.add gy.2 sD.2
    have PY:Hid (Ok (bE D)):=(iU.fit zo).1;have HX:Hid (au (az (dN D),nt (dN D).natAbs,dE D+ -1)=X):=by show _=_;rw[<-hX];exact PF D 1
    have vW:Hid (dC (Z.take (k+1))=dC (Z.take k)++(bG X)):=by
     show _=_
     rw[hst,Eh];rfl
    obtain⟨b1,o1,dh,p0,p1,p2⟩:=(kG.out.below pb).num k k1 jG;obtain⟨b2,o2,dG,q0,q1,q2⟩:=(mE.out.below pb).num k k2 ua;have pE:=yz n c1 k (k:Int) dh hlt rfl;have kv:=yz n c2 k (k:Int) dG hlt rfl;have ou:b1<w2.heap.size:=(by subst dh;exact kG.out.lt (by intro h0;have:=congrArg List.length h0;rw[kQ bu 3 (λ_=>rfl)]at this;simp at this;omega));have lu:b2<w2.heap.size:=(by subst dG;exact mE.out.lt (by intro h0;have:=congrArg List.length h0;rw[kQ bu 3 (λ_=>rfl)]at this;simp at this;omega));have EY:kJ<w2.heap.size:=World.block_lt_of_cell? w2 _ qu.out;have Hu:Hid (aZ wr kJ (nu+i) [.slice a1 n c1]):=λj hj=>by
     obtain rfl:j=0:=by simp at hj;omega
     exact cell_later pb qu.out
    have Hv:Hid (aZ wr kJ (nu+j) [.slice a2 n c2]):=λj hj=>by
     obtain rfl:j=0:=by simp at hj;omega
     exact cell_later pb Dp.out
    have Hp:Hid (aZ wr b1 (o1+k*3) [ag sp,ah mp,af ep]):=kE p0 p1 p2;have Hq:Hid (aZ wr b2 (o2+k*3) [ag sq,ah mq,af eq]):=kE q0 q1 q2;obtain⟨sZ,Dw,HD,gX,lH,dD⟩:=gU gy sD hD pv pb ((HT.out.below ae.2.1.out).below pb);have ft:=ae.2.1;have AZ:=pb.size;clear pv pb gy sD hD hX hst iU jG ua dh dG p0 p1 p2 q0 q1 q2;have Hb:=hbz wr;go_wp2_with fail;obtain⟨ae,ak⟩:=qZ (Hu.an<|Hv.an<|Hp.an<|Hq.an trivial);obtain⟨Hu,Hv,Hp,Hq,_⟩:=ae;have u0:=Hu.out.w1;have v0:=Hv.out.w1;obtain⟨p0,p1,p2⟩:=Hp.out.w3;obtain⟨q0,q1,q2⟩:=Hq.out.w3;refine fh (λw'=>aH w' kJ (nu+i) (.slice a1 n c1)/\aH w' kJ (nu+j) (.slice a2 n c2)/\aH w' b1 (o1+k*3) (ag sp)/\aH w' b1 (o1+k*3+1) (ah mp)/\aH w' b1 (o1+k*3+2) (af ep)/\aH w' b2 (o2+k*3) (ag sq)/\aH w' b2 (o2+k*3+1) (ah mq)/\aH w' b2 (o2+k*3+2) (af eq)) (λi=>Nat.blt i 100000) [(0,true),(1,true),(2,true),(3,true),(4,true),(5,true),(6,true),(7,true),(8,true),(9,true),(10,true),(11,true),(12,true),(13,true),(14,true),(15,false),(16,false),(17,false),(18,false),(19,false),(20,true)] zk zk rfl zk zc ⟨u0,v0,p0,p1,p2,q0,q1,q2⟩ ?_;iterate 15 (refine pT rfl rfl ?_ (by intro w' ⟨q0,q1,q2,q3,q4,q5,q6,q7⟩;go_simp;try with_reducible rfl);try simp only[UU])
    refine aM rfl rfl (λK hK=>?_);go_simp;refine hK _ _ (λ_=>⟨aU u0,aU v0,aU p0,aU p1,aU p2,aU q0,aU q1,aU q2⟩) ?_;try simp only[UU]
    refine cB (λw4=>ar w4 (wr.heap.size) 30 [ag sp,ah mp,af ep,ag sq,ah mq,af eq]/\Bw wr w4) (by first|exact iX|exact iY) ?_;rintro w4 ⟨qe,ai⟩;replace Hu:=kW Hu ai;replace Hv:=kW Hv ai;replace Hp:=kW Hp ai;replace Hq:=kW Hq ai;have He:=aj qe;clear qe;have u0:=Hu.out.w1;have v0:=Hv.out.w1;obtain⟨p0,p1,p2⟩:=Hp.out.w3;obtain⟨q0,q1,q2⟩:=Hq.out.w3;obtain⟨e0,e1,e2,e3,e4,e5⟩:=He.out.c6;replace Hb:=aW Hb ai;refine aM rfl rfl (λK hK=>?_);go_simp;with_reducible refine(xU sp mp ep sq mq eq D B HD.out wr.heap.size 2 30 _ sZ.out Dw.out zo He.out (by first|exact(dD.out.below Hb.out) |exact aC.drew (dD.out.below Hb.out) |exact aC.alloc (dD.out.below Hb.out) _|exact aC.drew (aC.alloc (dD.out.below Hb.out) _) |exact aC.alloc (aC.drew (dD.out.below Hb.out)) _)).mono ?_
    rintro e w5 ⟨rfl,hq⟩;have ai:Bw w4 w5:=by first|exact hq|exact cu hq
    replace Hu:=kW Hu ai;replace Hv:=kW Hv ai;replace Hp:=kW Hp ai;replace Hq:=kW Hq ai;replace He:=kB He ai;have u0:=Hu.out.w1;have v0:=Hv.out.w1;obtain⟨p0,p1,p2⟩:=Hp.out.w3;obtain⟨q0,q1,q2⟩:=Hq.out.w3;obtain⟨e0,e1,e2,e3,e4,e5⟩:=He.out.c6;replace Hb:=aW Hb ai;refine hK _ _ (λ_=>⟨u0,v0,p0,p1,p2,q0,q1,q2⟩) ?_;try simp only[UU]
    refine aM rfl rfl (λK hK=>?_);go_simp;with_reducible refine(Fx (az (dN D)) (nt (dN D).natAbs) (dE D) (-1) X HX.out _ PY.out zd (by first|exact(dD.out.below Hb.out) |exact aC.drew (dD.out.below Hb.out) |exact aC.alloc (dD.out.below Hb.out) _|exact aC.drew (aC.alloc (dD.out.below Hb.out) _) |exact aC.alloc (aC.drew (dD.out.below Hb.out)) _)).mono ?_
    rintro e w6 ⟨rfl,hq⟩;have ai:Bw w5 w6:=by first|exact hq|exact cu hq
    replace Hu:=kW Hu ai;replace Hv:=kW Hv ai;replace Hp:=kW Hp ai;replace Hq:=kW Hq ai;replace He:=kB He ai;have u0:=Hu.out.w1;have v0:=Hv.out.w1;obtain⟨p0,p1,p2⟩:=Hp.out.w3;obtain⟨q0,q1,q2⟩:=Hq.out.w3;obtain⟨e0,e1,e2,e3,e4,e5⟩:=He.out.c6;replace Hb:=aW Hb ai;refine hK _ _ (λ_=>⟨u0,v0,p0,p1,p2,q0,q1,q2⟩) ?_;try simp only[UU]
    refine aM rfl rfl (λK hK=>?_);go_simp;refine hK _ _ (λ_=>⟨aU u0,aU v0,aU p0,aU p1,aU p2,aU q0,aU q1,aU q2⟩) ?_;try simp only[UU]
    refine cB (λw7=>ar w7 (w6.heap.size) 30 (bG X)/\Bw w6 w7) (by first|exact iX|exact iY) ?_;rintro w7 ⟨qc,ai⟩;have aE1:=He.out.lt;replace Hu:=kW Hu ai;replace Hv:=kW Hv ai;replace Hp:=kW Hp ai;replace Hq:=kW Hq ai;replace He:=kB He ai;have Hc:=aj qc;clear qc;have u0:=Hu.out.w1;have v0:=Hv.out.w1;obtain⟨p0,p1,p2⟩:=Hp.out.w3;obtain⟨q0,q1,q2⟩:=Hq.out.w3;obtain⟨e0,e1,e2,e3,e4,e5⟩:=He.out.c6;obtain⟨c0,c1,c2⟩:=Hc.out.c3;replace Hb:=aW Hb ai;refine aM rfl rfl (λK hK=>?_);have bW:=ownsRow_below gX.out Hb.out;have jq:=Hb.out.size;refine wp_append_own _ _ _ 36 rfl w2.heap.size 30 i0 _ 3 32 Tryz.underlying36 Hi.out eu.out ey.out dM.out rfl zd v k (dC (Z.take k)) rfl bW ⟨w6.heap.size,0,none⟩ 1 1 (bG X) rfl rfl (ji Hc.out) zy zx zo zo ?_;intro v' w8 gm cF _;obtain⟨g',cq,rfl⟩:=ownsRow_succ gm;have nb:∀b,b<w2.heap.size->some b≠v.ownBlock:=λb hb e=>by have:=eo bW b e.symm;omega
    refine hK _ _ (λ_=>⟨eF cF u0 (nb _ EY),eF cF v0 (nb _ EY),eF cF p0 (nb _ ou),eF cF p1 (nb _ ou),eF cF p2 (nb _ ou),eF cF q0 (nb _ lu),eF cF q1 (nb _ lu),eF cF q2 (nb _ lu)⟩) ?_;try simp only[UU]
    refine pT rfl rfl ?_;try simp only[UU]
    simp only[bH];go_wp2;go_roundw;case rel=>
     refine⟨k+1,_,by omega,by go_num,rfl,?_,?_⟩
     . rw[vW.out];exact gm
     . exact(aI lH.out Hb.out).grown cF zo (λj e=>eo bW j e)
    case measure=>exact bC
  . obtain rfl:k=n:=by omega
    have rA:Z.take k=Z:=List.take_of_length_le (by rw[yT.out];exact Nat.le_refl _);rw[rA]at pv;obtain⟨a3,abI,rfl,tN,_⟩:=dZ pv;obtain⟨LC,Lu,Lz,ft⟩:=dv tN ((HT.out.below ae.2.1.out).below pb) ((Ha.out.below ae.2.1.out).below pb) (aI ae.2.1.out pb);clear tN pv pb rA Kk ub;have Hb:Hid (Bw w wr):=ft;go_wp2_with fail;refine(Sk.out a3 abI _ Lz.out LC.out Lu.out).mono ?_;rintro e w4 ⟨a4,c4,rfl,hl4,ht4,ai⟩;have RX:=aj ht4;replace Hb:=aj (aI Hb.out ai);replace LC:=aj (LC.out.below ai);replace Lu:=aj (Lu.out.below ai);replace Lz:=aj (Lz.out.below ai);clear ht4 ai;go_wp2_with fail;refine(zn.out a3 abI _ Lz.out LC.out Lu.out).mono ?_;rintro e w5 ⟨a5,c5,rfl,hl5,ht5,ai⟩;have Ht5:=aj ht5;replace Hb:=aj (aI Hb.out ai);replace RX:=aj (RX.out.below ai);clear ht5 ai;go_wp2;refine bodyPost_ret (v:=.tuple #[.slice a4 L c4,.slice a5 L c5,af 0]) (by simp[results,Tryz.results19,go_sem]) rfl ⟨a4,c4,a5,c5,rfl,hl4,hl5,RX.out,Ht5.out,Hb.out⟩
def Tryz.aGz :(Tryz.prog.info? 35).map (λi=>(i.zero,i.size,i.bytes))=some (some (.slice none 0 0),1,24):=by kernel_rfl
def kO (o p:List Raw):List Dyadic:=List.zipWith (λx y=>au x-au y) p o
def MN {o p:List Raw}(h:p.length=o.length):(kO o p).length=p.length:=by simp[kO,h]
def aq4 (o p:List Raw)(k:Nat)(h:k<p.length)(h':k<o.length):(kO o p).take (k+1)=(kO o p).take k++[au p[k]-au o[k]]:=by unfold kO;rw[List.take_succ_eq_append_getElem zi];simp
def Own2.aGD {e:TypeId}{w:World}{base k:Nat}{R:List (List Dyadic)}{v:Value}(h:Own2 e w base R k v)(hk:R.length=k):∃a c,v=.slice a k c/\k<=c/\bJ w a (R.map λr=>r.map canon):=by
 obtain⟨vals,hl,ho,hi⟩:=h;obtain⟨a,c,hv,hat,_⟩:=dZ ho;subst hv;refine⟨a,c,rfl,Pk ho,vals,by simp[hl,hk],hat,λi h1 h2=>?_⟩;obtain⟨a1,c1,e1,e2,_⟩:=hi i h2;have hi1:i<R.length:=by simpa using h1
 have eg:R.getD i []=R[i]:=by simp[hi1]
 rw[eg]at e1 e2;refine⟨a1,c1,?_,?_⟩
 . rw[e1];simp
 . rw[List.getElem_map,<-sf];exact e2
def aiI (b o cap m n:Nat)(rows:List (List Raw))(B:Nat)(w:World)(hL:rows.length=m+1)(hm:m<=8)(hcap:m+1<=cap)(jX:1<=m)(hn:1<=n)(hn8:n<=8)(hrow:∀r∈rows,r.length=n)(ha:bJ w (some ⟨b,o,none⟩) rows)
 (hfit:∀r∈rows,∀c∈r,Fit B c) (hB:B<=10000000) (hT:aC w):
 Cl 147 #[.slice (some ⟨b,o,none⟩) (m+1) cap] w λe w'=>∃a' c',e=.returned (.slice a' m c')/\m<=c'/\
  bJ w' a' (((rows.drop 1).map λp=>kO (rows.getD 0 []) p).map λr=>r.map canon)/\Bw w w':=by
 obtain⟨i0,hi,hz0,hz1,hz2⟩:=info_parts Tryz.aGt;obtain⟨j0,hj,hy0,hy1,hy2⟩:=info_parts Tryz.aGz;obtain⟨S,hS⟩:=aB ((rows.drop 1).map λp=>kO (rows.getD 0 []) p);have hSL:S.length=m:=by rw[<-hS];simp[hL]
 have Aa:∀k (h0:0<rows.length) (h1:k+1<rows.length),S.getD k []=kO rows[0] rows[k+1]:=by
  intro k h0 h1;subst hS;have e0:rows.getD 0 []=rows[0]:=by simp[h0]
  rw[e0];have h2:k<(rows.drop 1).length:=by simp;omega
  simp[h1]
 rw[hS];have hcell:=λ(W:World) (h:bJ W (some ⟨b,o,none⟩) rows) (k:Nat) (hk:k<rows.length)=>h.row k hk;obtain⟨Hi,eu,ey,dM,Hj,nK,rX,rY,HSL,Dh,ZF,HT⟩:=ie hi hz0 hz1 hz2 hj hy0 hy1 hy2 hSL Aa hcell hT;obtain⟨Ha,qQ,vS,HL⟩:=dv ha hrow hfit hL;clear hi hz0 hz1 hz2 hj hy0 hy1 hy2 hS hSL Aa hcell ha hT hL hrow hfit;have e1:m+1-1=m:=by omega
 have e2:¬cap=1:=by omega
 go_enter Tryz.func147,Tryz.ntmps147;have Hb:=hbz w;go_wp2_with fail;obtain⟨r0,yn⟩:=aB (rows[0]'(by rw[HL.out];omega));obtain⟨_,_,a0,c0,kq,hc0,kX⟩:=ZF.out w Ha.out 0 (by rw[HL.out];omega);obtain⟨rfl,rfl⟩:b=_/\o=_:=by simp at kq;exact kq
 have hn0:r0.length=n:=by rw[<-yn];exact qQ.out _ (List.getElem_mem _)
 have Af:∀x∈r0,Fit B x:=by rw[<-yn];exact vS.out _ (List.getElem_mem _)
 have sA:∀k (h1:k+1<rows.length),S.getD k []=kO r0 rows[k+1]:=λk h1=>by rw[Dh.out k zo h1,yn]
 rw[yn]at hc0 kX;rw[hn0]at hc0;rw[Nat.add_zero]at hc0;have Kk:=sJ (m+1) cap 0 0 (show some (⟨b,o,none⟩:Addr)=some ⟨b,o,none⟩from rfl) zo rfl;rw[Nat.mul_one,Nat.add_zero]at Kk;obtain⟨qu,kG,qH,GC,Qh⟩:=gT hc0 kX hn0 Af sA;have EY:b<w.heap.size:=World.block_lt_of_cell? w _ hc0;clear hc0 kX hn0 Af sA yn kq Hb;go_loopw[3,11] (λs3 x wr=>∃(k:Nat) (v:Value),k<=m/\x=af (k:Int)/\v=s3/\Own2 35 wr w.heap.size S k v/\Bw w wr) (λ_ x _=>m-(intOf x).toNat);case atStart=>exact⟨0,_,Nat.zero_le _,rfl,rfl,Own2.nil _ _ _ _,Below.refl _ _⟩
 case round=>
  obtain⟨k,v,hk,rfl,rfl,pv,pb⟩:=hrel;by_cases hlt:k<m
  . have hk2:k+1<rows.length:=by rw[HL.out];omega
    obtain⟨p,jY⟩:=aB (rows[k+1]);obtain⟨_,_,a1,c1,hab,hc1,hat⟩:=ZF.out wr (Ha.out.below pb) (k+1) hk2;obtain⟨rfl,rfl⟩:b=_/\o=_:=by simp at hab;exact hab
    have tW:p.length=n:=by rw[<-jY];exact qQ.out _ (List.getElem_mem hk2)
    have tV:∀x∈p,Fit B x:=by rw[<-jY];exact vS.out _ (List.getElem_mem hk2)
    have yb:=Qh.out k hk2;rw[jY]at hc1 hat yb;rw[tW]at hc1;have pE:=sJ m (cap-1) k (k:Int) (show some (⟨b,o+1,none⟩:Addr)=some ⟨b,o+1,none⟩from rfl) hlt rfl;rw[Nat.mul_one]at pE;have atz:wr.cell? ⟨b,o+1+k,none⟩=some (.slice a1 n c1):=by rw[show o+1+k=o+(k+1)by omega];exact hc1
    obtain⟨Z,hZ⟩:=aB (kO r0 p);rw[hZ]at yb;obtain⟨dL,uB,BD,Di,HZ,bo,gX⟩:=jL hat tW tV yb hZ pb pv;clear hat tW tV yb hZ pb pv hab jY hc1;have kD:=bo.out.size;obtain⟨wc,hwc⟩:∃wc,wc=wr:=⟨_,rfl⟩;subst hwc;go_wp2_with fail;go_loopw[6,17] (λs6 x wr=>∃(j:Nat) (v2:Value),j<=n/\x=af (j:Int)/\v2=s6/\wr.ownsRow wc.heap.size 30 3 v2 j (dC (Z.take j))/\Bw wc wr) (λ_ x _=>n-(intOf x).toNat);case atStart=>exact⟨0,_,Nat.zero_le _,rfl,rfl,World.ownsRow_nil _ _ _ _,Below.refl _ _⟩
    case round=>
     clear atz;obtain⟨j,v2,hj,rfl,rfl,ho,hb2⟩:=hrel;by_cases bA:j<n
     . have k1:j<p.length:=by rw[uB.out];exact bA
       have k2:j<r0.length:=by rw[qH.out];exact bA
       obtain⟨sp,mp,ep,jG⟩:=sk (p[j]);obtain⟨sq,mq,eq,ua⟩:=sk (r0[j]);have gy:=BD.out _ (List.getElem_mem k1);have sD:=GC.out _ (List.getElem_mem k2);rw[jG]at gy;rw[ua]at sD;obtain⟨X,hX⟩:=aB (au (sp,mp,ep)-au (sq,mq,eq));have vW:Hid (dC (Z.take (j+1))=dC (Z.take j)++(bG X)):=by
        show _=_
        rw[<-HZ.out,aq4 _ _ _ k1 k2,Eh,jG,ua,hX];rfl
       have dF:=aI bo.out hb2;obtain⟨b1,o1,dh,p0,p1,p2⟩:=(dL.out.below hb2).num j k1 jG;obtain⟨b2,o2,dG,q0,q1,q2⟩:=(kG.out.below dF).num j k2 ua;have afi:=yz n c1 j (j:Int) dh bA rfl;have aDX:=yz n c0 j (j:Int) dG bA rfl;have ou:b1<wc.heap.size:=(by subst dh;exact dL.out.lt (by intro h0;have:=congrArg List.length h0;rw[kQ bu 3 (λ_=>rfl)]at this;simp at this;omega));have lu:b2<wc.heap.size:=Nat.lt_of_lt_of_le (by subst dG;exact kG.out.lt (by intro h0;have:=congrArg List.length h0;rw[kQ bu 3 (λ_=>rfl)]at this;simp at this;omega)) kD;have lbc:b<wc.heap.size:=Nat.lt_of_lt_of_le EY kD;have Hu:Hid (aZ wr b o [.slice a0 n c0]):=λi hi=>by
        obtain rfl:i=0:=by simp at hi;omega
        exact cell_later dF qu.out
       have Hp:Hid (aZ wr b1 (o1+j*3) [ag sp,ah mp,af ep]):=kE p0 p1 p2;have Hq:Hid (aZ wr b2 (o2+j*3) [ag sq,ah mq,af eq]):=kE q0 q1 q2;obtain⟨sZ,Dw,HX,Ho,lH,dD⟩:=gU gy sD hX ho hb2 (HT.out.below dF);have AZ:=hb2.size;clear ho hb2 gy sD hX jG ua dh dG p0 p1 p2 q0 q1 q2 dF;have Hb:=hbz wr;go_wp2_with fail;obtain⟨ae,ak⟩:=qZ (Hu.an<|Hp.an<|Hq.an trivial);obtain⟨Hu,Hp,Hq,_⟩:=ae;have u0:=Hu.out.w1;obtain⟨p0,p1,p2⟩:=Hp.out.w3;obtain⟨q0,q1,q2⟩:=Hq.out.w3;refine fh (λw'=>aH w' b o (.slice a0 n c0)/\aH w' b1 (o1+j*3) (ag sp)/\aH w' b1 (o1+j*3+1) (ah mp)/\aH w' b1 (o1+j*3+2) (af ep)/\aH w' b2 (o2+j*3) (ag sq)/\aH w' b2 (o2+j*3+1) (ah mq)/\aH w' b2 (o2+j*3+2) (af eq)) (λi=>Nat.blt i 100000) [(0,true),(1,true),(2,true),(3,true),(4,true),(5,true),(6,true),(7,true),(8,true),(9,true),(10,true),(11,false),(12,false),(13,false),(14,true)] zk zk rfl zk zc ⟨u0,p0,p1,p2,q0,q1,q2⟩ ?_;iterate 11 (refine pT rfl rfl ?_ (by intro w' ⟨q0,q1,q2,q3,q4,q5,q6⟩;go_simp;try with_reducible rfl))
       refine aM rfl rfl (λK hK=>?_);go_simp;with_reducible refine(Ej sp mp ep sq mq eq X B HX.out _ sZ.out Dw.out zo (by first|exact dD.out|exact aC.drew dD.out|exact aC.alloc dD.out _|exact aC.drew (aC.alloc dD.out _) |exact aC.alloc (aC.drew dD.out) _)).mono ?_
       rintro e w6 ⟨rfl,hq⟩;have ai:Bw wr w6:=by first|exact hq|exact cu hq
       replace Hu:=kW Hu ai;replace Hp:=kW Hp ai;replace Hq:=kW Hq ai;have u0:=Hu.out.w1;obtain⟨p0,p1,p2⟩:=Hp.out.w3;obtain⟨q0,q1,q2⟩:=Hq.out.w3;replace Hb:=aW Hb ai;refine hK _ _ (λ_=>⟨u0,p0,p1,p2,q0,q1,q2⟩) ?_
       refine aM rfl rfl (λK hK=>?_);go_simp;refine hK _ _ (λ_=>⟨aU u0,aU p0,aU p1,aU p2,aU q0,aU q1,aU q2⟩) ?_
       refine cB (λw7=>ar w7 (w6.heap.size) 30 (bG X)/\Bw w6 w7) (by first|exact iX|exact iY) ?_;rintro w7 ⟨qc,ai⟩;replace Hu:=kW Hu ai;replace Hp:=kW Hp ai;replace Hq:=kW Hq ai;have Hc:=aj qc;clear qc;have u0:=Hu.out.w1;obtain⟨p0,p1,p2⟩:=Hp.out.w3;obtain⟨q0,q1,q2⟩:=Hq.out.w3;obtain⟨c0,c1,c2⟩:=Hc.out.c3;replace Hb:=aW Hb ai;refine aM rfl rfl (λK hK=>?_);have bW:=ownsRow_below Ho.out Hb.out;have jq:=Hb.out.size;refine wp_append_own _ _ _ 35 rfl wc.heap.size 30 i0 _ 3 32 Tryz.underlying35 Hi.out eu.out ey.out dM.out rfl zd v2 j (dC (Z.take j)) rfl bW ⟨w6.heap.size,0,none⟩ 1 1 (bG X) rfl rfl (ji Hc.out) zy zx zo zo ?_;intro v' w8 gm cF _;obtain⟨g',cq,rfl⟩:=ownsRow_succ gm;have nb:∀b,b<wc.heap.size->some b≠v2.ownBlock:=λb hb e=>by have:=eo bW b e.symm;omega
       refine hK _ _ (λ_=>⟨eF cF u0 (nb _ lbc),eF cF p0 (nb _ ou),eF cF p1 (nb _ ou),eF cF p2 (nb _ ou),eF cF q0 (nb _ lu),eF cF q1 (nb _ lu),eF cF q2 (nb _ lu)⟩) ?_
       refine pT rfl rfl ?_
       simp only[bH];go_wp2;go_roundw;case rel=>
        refine⟨j+1,_,by omega,by go_num,rfl,?_,?_⟩
        . rw[vW.out];exact gm
        . exact(aI lH.out Hb.out).grown cF zo (λj e=>eo bW j e)
       case measure=>exact bC
     . obtain rfl:j=n:=by omega
       have rA:Z.take j=Z:=List.take_of_length_le (by rw[<-HZ.out,MN (by rw[uB.out,qH.out]),uB.out];exact Nat.le_refl _);rw[rA]at ho;obtain⟨a2,cap2,rfl,jD,dG⟩:=dZ ho;have gz:=ho.lt;obtain⟨vals,hvl,hov,pK⟩:=gX.out.below hb2;have Hb:=hbz wr;obtain⟨_,_,vw,_⟩:=gX.out;have hvs:=vw.lt;have hin:∀b o,a2=some ⟨b,o,none⟩->some b≠v.ownBlock/\b<wr.heap.size:=by intro b o e;subst e;have h1:=gz b rfl;refine⟨λh2=>?_,h1.2⟩;have h3:=hvs b h2.symm;omega
       obtain⟨uw,xy,uE,xK,eN,cX⟩:=gU hin jD hvl pK hov hb2;have yO:=hb2.size;have yT:Hid (Z.length=j):=by show _=_;rw[<-HZ.out,MN (by rw[uB.out,qH.out]),uB.out]
       clear hin jD hvl pK hov vw hvs hb2 dG gz rA ho bA hj;obtain⟨W6,pu,aR,ae,ak⟩:=bX wr (Hb.an trivial) 35 [.slice a2 j cap2];have bW:=ownsRow_below eN.out ae.2.1.out;have jq:=ae.2.1.out.size;have hnews:∀i u,([.slice a2 j cap2]:List Value)[i]?=some u->W6.cell? ((⟨wr.heap.size,0,none⟩:Addr).add i)=some u:=ji ae.1.out;skip
       go_wp2_with (at_builtin;refine wpList_append_own_at _ rfl _ _ 198 rfl w.heap.size 35 j0 _ 1 24 Tryz.underlying198 Hj.out nK.out rX.out rY.out rfl zd v k vals rfl bW ⟨wr.heap.size,0,none⟩ 1 1 [.slice a2 j cap2] rfl rfl hnews zy zx zo zo ?_;intro v' w7 eQ fL _ kx;obtain⟨g',rp,rfl⟩:=ownsRow_succ eQ);go_roundw;case rel=>
        refine⟨k+1,_,by omega,by go_num,rfl,?_,?_⟩
        . refine Own2.push (a:=a2) (c:=cap2) uE.out (w:=W6) ?_ ?_ ?_ ?_ fL kx
          . intro i h;obtain⟨a,c,h1,h2,h3⟩:=xK.out i h;exact⟨a,c,h1,h2.below ae.2.1.out,λb o e=>⟨(h3 b o e).1,Nat.lt_of_lt_of_le (h3 b o e).2 jq⟩⟩
          . rw[Di.out];exact xy.out.below ae.2.1.out
          . exact λb o e=>⟨(uw.out b o e).1,Nat.lt_of_lt_of_le (uw.out b o e).2 jq⟩
          . rw[Di.out,yT.out];exact eQ
        . exact(aI (aI bo.out cX.out) ae.2.1.out).grown fL zo (λj e=>eo bW j e)
       case measure=>exact bC
  . obtain rfl:k=m:=by omega
    obtain⟨a2,c2,rfl,hcl,ky⟩:=Own2.aGD pv HSL.out;obtain⟨rV,bo⟩:=aK ky pb;clear pv pb ky;go_wp2;refine bodyPost_ret (results_tmp rfl _ _ _) rfl ⟨a2,c2,rfl,hcl,rV.out,bo.out⟩
end Go.Proofs.YtbkopgdpcijfbaaGreatDoor
namespace Go.Proofs.YtbkopgdpcijfbaaGreatDoor
def Xp (x:Dyadic):Nat->Dyadic
 |0=>1
 |n+1=>Xp x n*x
def pN (X:Nat->Dyadic)(c:Dyadic)(l:List UInt8):Nat->Dyadic
 |0=>c
 |k+1=>pN X c l k*Xp (X k) (l.getD k 0).toNat
def zT :Trm:=([],false,[],0)
def MW (X:Nat->Dyadic)(n:Nat)(ts:List Trm):Nat->Dyadic
 |0=>0
 |k+1=>MW X n ts k+pN X (au (ts.getD k zT).2) (ts.getD k zT).1 n
def cO (f:List UInt8->Dyadic):List Trm->Dyadic
 |[]=>0
 |x::l=>au x.2*f x.1+cO f l
def Tw (f:List UInt8->Dyadic)(a b:List Trm):cO f (a++b)=cO f a+cO f b:=by
 induction a with
 |nil=>simp[cO]
 |cons x a ih=>simp only[List.cons_append,cO,ih];grind
def arI (f:List UInt8->Dyadic)(a b:List Trm):cO f (ij a b)=cO f a+cO f b:=by
 obtain⟨n,hn⟩:=aB (a.length+b.length);induction n using Nat.strongRecOn generalizing a b with
 | _ n ih=>
   cases a with
   |nil=>rw[CK];simp[cO]
   | cons x a=>cases b with
     |nil=>rw[CL];simp[cO]
     | cons y b=>
       rw[yI];simp only[List.length_cons]at hn;split
       . have:=ih _ (by simp only[List.length_cons];omega) a (y::b) rfl;simp only[cO]at this⊢;rw[this];grind
       . split
         . have:=ih _ (by simp only[List.length_cons];omega) (x::a) b rfl;simp only[cO]at this⊢;rw[this];grind
         . rename_i h1 h2
           have:=ih _ zo a b rfl;have e:x.1=y.1:=Im (by simpa using h1) (by simpa using h2);simp only[cO,PH,bF]at this⊢;rw[this,e];grind
def arJ (f:List UInt8->Dyadic)(l:List Trm):cO f (im l)=cO f l:=
 KP (Q:=λl r=>cO f r=cO f l) (λ_ _=>rfl) (λa b c d h1 h2=>by rw[arI,Tw,h1,h2]) l
def arH (f:List UInt8->Dyadic)(l:List Trm):cO f (cg l)=cO f l:=by
 have h1:∀l,cO f (l.map λx=>(x.1,canon (au x.2)))=cO f l:=λl=>by
  induction l with
  |nil=>rfl
  |cons x l ih=>simp only[List.map_cons,cO,ih,bF]
 have h2:∀l,cO f (l.filter pO)=cO f l:=λl=>by
  induction l with
  |nil=>rfl
  | cons x l ih=>
    rw[List.filter_cons];split
    . simp only[cO,ih]
    . rename_i h
      have h0:au x.2=0:=Classical.byContradiction λhc=>h (by unfold pO;rw[(Iy _).2 hc];rfl);simp only[cO,ih,h0];grind
 unfold cg;rw[h1,h2,arJ]
def eZ (X:Nat->Dyadic)(n:Nat)(l:List UInt8):Dyadic:=pN X 1 l n
def awo (X:Nat->Dyadic)(c:Dyadic)(l:List UInt8)(n:Nat):pN X c l n=c*pN X 1 l n:=by
 induction n with
 |zero=>show c=c*1;grind
 |succ n ih=>rw[pN,pN,ih];grind
def acF (X:Nat->Dyadic)(n:Nat)(ts:List Trm)(k:Nat)(hk:k<=ts.length):MW X n ts k=cO (eZ X n) (ts.take k):=by
 induction k with
 |zero=>rfl
 | succ k ih=>
   have hk':k<ts.length:=by omega
   have e:ts.getD k zT=ts[k]:=by simp[List.getD_eq_getElem?_getD,hk']
   rw[MW,ih zo,List.take_succ_eq_append_getElem hk',Tw,e,awo];simp only[cO,eZ];grind
def WJ (X:Nat->Dyadic)(n k:Nat):pN X 1 (iN n) k=1:=by
 induction k with
 |zero=>rfl
 | succ k ih=>
   have e:(iN n).getD k 0=0:=by unfold iN;rw[List.getD_eq_getElem?_getD,List.getElem?_replicate];split<;>rfl
   rw[pN,ih,e];show 1*Xp (X k) 0=1;show(1:Dyadic) *1=1;grind
def WI (X:Nat->Dyadic)(n j k:Nat)(hk:k<=n)(hj:j<n):pN X 1 (cN n j) k=if j<k then X j else 1:=by
 induction k with
 |zero=>rfl
 | succ k ih=>
   have e:((cN n j).getD k 0).toNat=if k=j then 1 else 0:=by
    unfold cN;rw[List.getD_eq_getElem?_getD,List.getElem?_set];by_cases h:j=k
    . subst h;rw[if_pos rfl,if_pos (by simpa using hj),if_pos rfl];rfl
    . rw[if_neg h,List.getElem?_replicate,if_pos zo,if_neg (λh2=>h h2.symm)];rfl
   rw[pN,ih zo,e];by_cases h:k=j
   . subst h;rw[if_neg zo,if_pos rfl,if_pos zo];show 1* (1*X k)=X k;grind
   . rw[if_neg h];by_cases h2:j<k
     . rw[if_pos h2,if_pos zo];show X j*1=X j;grind
     . rw[if_neg h2,if_neg zo];show(1:Dyadic) *1=1;grind
end Go.Proofs.YtbkopgdpcijfbaaGreatDoor
