/- Polynomials that may be;how great their numbers are;those that are a number,and one for each variable. Plain. -/
import Derived.Test.YtpfgffadgkkedaaGreatDoorZ11
import Derived.Test.YtpfgffadgkkedaaGreatDoorZ7
import Derived.Test.YtpfgffadgkkedaaGreatDoorZ1
import Derived.Test.YtpfgffadgkkedaaGreatDoorZ9
import Derived.Test.YtpfgffadgkkedaaGreatDoorZ6
set_option linter.all false
set_option maxRecDepth 100000
set_option maxHeartbeats 16000000
namespace Go.Proofs.YtpfgffadgkkedaaGreatDoor
def FJ (V:Nat)(ts:List Trm):Prop:=Good ts/\(∀t∈ts,cJ t.1 V=true)/\ts.length<=4096/\V<=12
def Nl {V:Nat}{ts:List Trm}(h:FJ V ts):gj V ts=0:=by
 obtain⟨⟨h1,h2⟩,h3,h4,h5⟩:=h;unfold gj;rw[if_neg zo,if_neg zo,if_pos];rw[List.all_eq_true];intro k hk;have hk:k<ts.length:=by simpa using hk
 have e:ts.getD k default=ts[k]:=by simp[hk]
 have hm:=List.getElem_mem hk;unfold mZ xW;rw[e,h3 _ hm,(xS _).2 (h2 _ hm).1];have e2:(canon (dval ts[k].2)==ts[k].2)=true:=by rw[beq_iff_eq];exact(h2 _ hm).2.symm
 rw[e2];by_cases h0:k=0
 . simp[h0]
 . have hk1:k-1<ts.length:=by omega
   have e3:ts.getD (k-1) default=ts[k-1]:=by simp[hk1]
   have:=List.pairwise_iff_getElem.1 h1 (k-1) k hk1 hk zo;rw[e3,fY,fY,this];simp
def Good.coef {l:List Trm}(h:Good l):∀t∈l,dval t.2=bU l t.1:=by
 induction l with
 |nil=>intro t ht;cases ht
 | cons x l ih=>
   intro t ht;rcases List.mem_cons.1 ht with rfl|ht
   . exact h.head.symm
   . have hne:¬x.1=t.1:=λe=>by have:=(List.pairwise_cons.1 h.1).1 t ht;rw[e,CN]at this;cases this
     simp only[bU,if_neg hne,ih h.tail t ht];grind
def am9 {B:Nat}{l:List Trm}(h:∀x∈l,Sm B (dval x.2))(m:List UInt8):Sm (B+l.length) (bU l m):=by
 induction l with
 |nil=>exact Sm.zero _
 | cons x l ih=>
   have h1:=ih (λy hy=>h y (by simp[hy]));have h2:Sm B (if x.1=m then dval x.2 else 0):=by
    split
    . exact h x zm
    . exact Sm.zero _
   exact((h2.mono (show B<=B+l.length by omega)).add h1).mono zi
def am1 {B:Nat}{l:List Trm}(h:∀x∈l,Sm B (dval x.2)):∀t∈aS l,Sm (B+l.length) (dval t.2):=by intro t ht;rw[(jJ l).coef t ht,rq];exact am9 h _
def Zj (l:List Trm):∀x∈aS l,∃y∈l,y.1=x.1:=by intro x hx;unfold aS at hx;obtain⟨y,hy,rfl⟩:=List.mem_map.1 hx;exact awg l y (List.mem_filter.1 hy).1
def am0 {V:Nat}{l:List Trm}(hV:V<=12)(hm:∀t∈l,cJ t.1 V=true)(hl:l.length<=4096):FJ V (aS l):=
 ⟨jJ l,λt ht=>by obtain⟨y,hy,e⟩:=Zj l t ht;rw[<-e];exact hm y hy,Nat.le_trans (kQ l) hl,hV⟩
def CS {a b:List Trm}(h:∀m,bU a m=bU b m):aS a=aS b:=Rs (jJ a) (jJ b) (λm=>by rw[rq,rq,h m])
def amZ (a b:List Trm):aS (aS a++aS b)=aS (a++b):=CS (λm=>by rw[Aj,Aj,rq,rq])
def cC (c:Dyadic)(l:List Trm):List Trm:=l.map λx=>(x.1,canon (dval x.2*c))
def Zq (c:Dyadic)(l:List Trm)(m:List UInt8):bU (cC c l) m=bU l m*c:=by
 induction l with
 |nil=>simp[cC,bU]
 |cons x l ih=>simp only[cC,List.map_cons,bU]at ih⊢;rw[ih,bA];split<;>grind
def lJ (n:Nat):List UInt8:=List.replicate n 0
def cF (n k:Nat):List UInt8:=(List.replicate n 0).set k 1
def VV (n:Nat):cJ (lJ n) n=true:=by unfold cJ lJ;rw[Bool.and_eq_true];refine⟨?_,by simp⟩;rw[List.all_eq_true];intro c hc;rw[(List.mem_replicate.1 hc).2];rfl
def NG (n k:Nat):cJ (cF n k) n=true:=by
 unfold cJ cF;rw[Bool.and_eq_true];refine⟨?_,by simp⟩;rw[List.all_eq_true];intro c hc;rcases List.mem_or_eq_of_mem_set hc with h|h
 . rw[(List.mem_replicate.1 h).2];rfl
 . rw[h];rfl
def fw (n:Nat)(c:Dyadic)(l:Nat->Dyadic)(k:Nat):List Trm:=(lJ n,canon c)::(List.range k).map λj=>(cF n j,canon (l j))
def cW (n:Nat)(c:Dyadic)(l:Nat->Dyadic)(k:Nat):List Trm:=aS (fw n c l k)
def Eg (n:Nat)(c:Dyadic)(l:Nat->Dyadic)(k:Nat):(fw n c l k).length=k+1:=by simp[fw]
def aey (n:Nat)(c:Dyadic)(l:Nat->Dyadic)(k:Nat):∀t∈fw n c l k,cJ t.1 n=true:=by
 intro t ht;unfold fw at ht;rcases List.mem_cons.1 ht with rfl|ht
 . exact VV n
 . obtain⟨j,_,rfl⟩:=List.mem_map.1 ht;exact NG n j
def ase {B:Nat}(n:Nat)(c:Dyadic)(l:Nat->Dyadic)(k:Nat)(hc:Sm B c)(hl:∀j,j<k->Sm B (l j)):∀t∈fw n c l k,Sm B (dval t.2):=by
 intro t ht;unfold fw at ht;rcases List.mem_cons.1 ht with rfl|ht
 . show Sm B (dval (canon c));rw[bA];exact hc
 . obtain⟨j,hj,rfl⟩:=List.mem_map.1 ht;show Sm B (dval (canon (l j)));rw[bA];exact hl j (by simpa using hj)
def Uh (n:Nat)(c:Dyadic)(l:Nat->Dyadic)(k:Nat):fw n c l (k+1)=fw n c l k++[(cF n k,canon (l k))]:=by unfold fw;rw[List.range_succ,List.map_append];rfl
def KZ (n:Nat)(c:Dyadic)(l:Nat->Dyadic)(k:Nat)(m:List UInt8):bU (fw n c l (k+1)) m=bU (fw n c l k) m+if cF n k=m then l k else 0:=by rw[Uh,Aj];simp only[bU,bA];grind
def asf (n:Nat)(c:Dyadic)(l:Nat->Dyadic)(k:Nat):aS (cW n c l k++aS [(cF n k,canon (l k))])=cW n c l (k+1):=by unfold cW;rw[amZ,Uh]
def am4 (n:Nat)(c d:Dyadic)(l r:Nat->Dyadic)(u v:Dyadic)(k:Nat)(m:List UInt8):bU (fw n (c*u+d*v) (λj=>l j*u+r j*v) k) m=bU (fw n c l k) m*u+bU (fw n d r k) m*v:=by
 induction k with
 |zero=>simp[fw,bU,bA];split<;>grind
 |succ k ih=>rw[KZ,ih,KZ,KZ];split<;>grind
def asc {n:Nat}{c d:Dyadic}{l r:Nat->Dyadic}(k:Nat)(hc:c=d)(h:∀j,j<k->l j=r j):fw n c l k=fw n d r k:=by unfold fw;rw[hc];congr 1;refine List.map_congr_left λj hj=>?_;rw[h j (by simpa using hj)]
def asg (n:Nat)(c d:Dyadic)(l r:Nat->Dyadic)(k:Nat):aS (cW n c l k++aS (cC (-1) (cW n d r k)))=cW n (c-d) (λj=>l j-r j) k:=by unfold cW;refine CS (λm=>?_);rw[Aj,rq,rq,Zq,rq];have h:=am4 n c d l r 1 (-1) k m;rw[asc (d:=c-d) (r:=λj=>l j-r j) k (by grind) (λj _=>by grind)]at h;rw[h];grind
end Go.Proofs.YtpfgffadgkkedaaGreatDoor
namespace Go.Proofs.YtpfgffadgkkedaaGreatDoor
open Go.RowKit
attribute [local go_sem ↓] Go.wp_at_zero Go.wp_at_succ
def Tryz.aBx :(Tryz.prog.info? 43).map (λi=>(i.zero,i.size,i.bytes))=some (some (.agg #[ag false,.string (bs [])]),2,24):=by kernel_rfl
def Tryz.aBz :(Tryz.prog.info? 226).map (λi=>(i.zero,i.size,i.bytes))=some (some (.slice none 0 0),1,24):=by kernel_rfl
def iC (z:Int):List Value:=[ag (au z),ah (nt z.natAbs)]
def zC (zs:List Int):List Value:=zs.flatMap iC
def axU (a b:List Int):zC (a++b)=zC a++zC b:=by unfold zC;rw[List.flatMap_append]
def jp (w:World)(base n:Nat)(R:List (List Int))(k:Nat)(v:Value):Prop:=
 ∃vals:List Value,vals.length=k/\w.ownsRow base 226 1 v k vals/\(∀i (h:i<vals.length),w.ownsRow base 43 2 vals[i] n (zC (R.getD i [])))/\
  ∀i j (hi:i<vals.length) (hj:j<vals.length) g,vals[i].ownBlock=some g->vals[j].ownBlock=some g->i=j
def jp.nil (w:World)(base n:Nat)(R:List (List Int)):jp w base n R 0 (.slice none 0 0):=
 ⟨[],rfl,World.ownsRow_nil _ _ _ _,λ_ h=>absurd h (Nat.not_lt_zero _),λ_ _ h=>absurd h (Nat.not_lt_zero _)⟩
def jp.below {w w':World}{base n k:Nat}{R:List (List Int)}{v:Value}(h:jp w base n R k v)(hb:Bw w w'):jp w' base n R k v:=by obtain⟨vals,hl,ho,hi,hd⟩:=h;exact⟨vals,hl,ownsRow_below ho hb,λi h=>ownsRow_below (hi i h) hb,hd⟩
def BP {W:World}{b1 b2 e1 e2 s1 s2 k1 k2:Nat}{v1 v2:Value}{x1 x2:List Value}(h1:W.ownsRow b1 e1 s1 v1 k1 x1)(h2:W.ownsRow b2 e2 s2 v2 k2 x2)(he:e1≠e2):v1.ownBlock=none\/v1.ownBlock≠v2.ownBlock:=by
 rcases h1.2 with⟨rfl,_⟩ |⟨g,cap,cur,rfl,_,hg,_⟩
 . exact .inl rfl
 . refine .inr λh=>?_;rcases h2.2 with⟨rfl,_⟩ |⟨g',cap',cur',rfl,_,hg',_⟩
   . simp[Value.ownBlock]at h
   . simp only[Value.ownBlock,Option.some.injEq]at h;subst h;rw[hg]at hg';simp at hg';exact he hg'.2
def rP {W:World}{base base':Nat}{e:TypeId}{size:Nat}{v:Value}{n:Nat}{xs:List Value}(h:W.ownsRow base e size v n xs)(hb:base'<=base):W.ownsRow base' e size v n xs:=by
 refine⟨h.1,?_⟩;rcases h.2 with h2|⟨g,cap,cur,h1,h2,h3⟩
 . exact .inl h2
 . exact .inr ⟨g,cap,cur,h1,Nat.le_trans hb h2,h3⟩
def jp.push {w w':World}{base n k:Nat}{R:List (List Int)}{v v' x:Value}{vals:List Value}(hl:vals.length=k)(hov:w.ownsRow base 226 1 v k vals)(hi:∀i (h:i<vals.length),w.ownsRow base 43 2 vals[i] n (zC (R.getD i [])))
 (hd:∀i j (hi:i<vals.length) (hj:j<vals.length) g,vals[i].ownBlock=some g->vals[j].ownBlock=some g->i=j)
 (hx:w.ownsRow base 43 2 x n (zC (R.getD k []))) (iF:∀g,x.ownBlock=some g->∀i (h:i<vals.length),vals[i].ownBlock≠some g)
 (ho:w'.ownsRow base 226 1 v' (k+1) (vals++[x])) (hg:w.grownBy w' v.ownBlock):jp w' base n R (k+1) v':=by
 refine⟨_,by simp[hl],ho,λi h=>?_,λi j h1 h2 g e1 e2=>?_⟩
 . by_cases hk:i<vals.length
   . rw[List.getElem_append_left hk];exact(hi i hk).kept hg (BP (hi i hk) hov zd)
   . have hik:i=k:=by simp at h;omega
     subst hik;rw[List.getElem_append_right zo];simp only[hl,Nat.sub_self,List.getElem_cons_zero];exact hx.kept hg (BP hx hov zd)
 . by_cases k1:i<vals.length
   . rw[List.getElem_append_left k1]at e1;by_cases k2:j<vals.length
     . rw[List.getElem_append_left k2]at e2;exact hd i j k1 k2 g e1 e2
     . have hjk:j=k:=by simp at h2;omega
       subst hjk;rw[List.getElem_append_right zo]at e2;simp only[hl,Nat.sub_self,List.getElem_cons_zero]at e2;exact absurd e1 (iF g e2 i k1)
   . have hik:i=k:=by simp at h1;omega
     subst hik;rw[List.getElem_append_right zo]at e1;simp only[hl,Nat.sub_self,List.getElem_cons_zero]at e1;by_cases k2:j<vals.length
     . rw[List.getElem_append_left k2]at e2;exact absurd e2 (iF g e1 j k2)
     . simp at h2;omega
def mL (l:Int)(ds:List Dyadic):Int:=ds.foldl (λl d=>min l (dE d)) l
def nI (l:Int)(R:List (List Dyadic)):Int:=R.foldl mL l
def rR (low:Int)(d:Dyadic):Int:=dN d*2^(dE d-low).toNat
def aeJ (l:Int)(ds:List Dyadic):mL l ds<=l/\∀d∈ds,mL l ds<=dE d:=by
 induction ds generalizing l with
 |nil=>exact⟨Int.le_refl _,λd h=>by cases h⟩
 | cons x xs ih=>
   have h:=ih (min l (dE x));have e:mL l (x::xs)=mL (min l (dE x)) xs:=rfl;rw[e];refine⟨by omega,λd hd=>?_⟩;rcases List.mem_cons.1 hd with rfl|hd
   . omega
   . exact h.2 d hd
def Um (l:Int)(R:List (List Dyadic)):nI l R<=l/\∀r∈R,∀d∈r,nI l R<=dE d:=by
 induction R generalizing l with
 |nil=>exact⟨Int.le_refl _,λd h=>by cases h⟩
 | cons x xs ih=>
   have h:=ih (mL l x);have h1:=aeJ l x;have e:nI l (x::xs)=nI (mL l x) xs:=rfl;rw[e];refine⟨by omega,λr hr d hd=>?_⟩;rcases List.mem_cons.1 hr with rfl|hr
   . have:=h1.2 d hd;omega
   . exact h.2 r hr d hd
def aeI (l:Int)(ds:List Dyadic)(m:Int)(hl:m<=l)(h:∀d∈ds,m<=dE d):m<=mL l ds:=by
 induction ds generalizing l with
 |nil=>exact hl
 |cons x xs ih=>have hx:=h x (List.mem_cons_self ..);exact ih (min l (dE x)) zo (λd hd=>h d (List.mem_cons_of_mem _ hd))
def Ul (l:Int)(R:List (List Dyadic))(m:Int)(hl:m<=l)(h:∀r∈R,∀d∈r,m<=dE d):m<=nI l R:=by
 induction R generalizing l with
 |nil=>exact hl
 |cons x xs ih=>exact ih (mL l x) (aeI l x m hl (h x (List.mem_cons_self ..))) (λr hr=>h r (List.mem_cons_of_mem _ hr))
def asB (l:Int)(ds:List Dyadic)(k:Nat)(h:k<ds.length):mL l (ds.take (k+1))=min (mL l (ds.take k)) (dE ds[k]):=by unfold mL;rw[List.take_succ_eq_append_getElem h,List.foldl_append];rfl
def asC (l:Int)(R:List (List Dyadic))(k:Nat)(h:k<R.length):nI l (R.take (k+1))=mL (nI l (R.take k)) R[k]:=by unfold nI;rw[List.take_succ_eq_append_getElem h,List.foldl_append];rfl
def ao1 (x y z:Value)(W:World):(Instr.field 45 (.agg #[x,y,z]) 1).run Tryz.prog W=.ok z W:=by kernel_rfl
def avQ (low:Int)(d:Dyadic)(h:low<=dE d):Dyadic.ofIntWithPrec (rR low d) (-low)=d:=by
 have e: -low= -(dE d)+((dE d-low).toNat:Int):=by omega
 unfold rR;rw[e,qK];exact(vg d).symm
def afV (a:Option Addr)(L cap n:Nat)(rows:List (List Raw))(B:Nat)(low:Int)(w:World)(hL:rows.length=L)(hL8:L<=8)(DN:n<=8)(hrow:∀r∈rows,r.length=n)(ha:Tbl w a rows)
 (hfit:∀r∈rows,∀c∈r,Fit B c) (hB:B<=10000000) (hT:aB w) (kq:nI 0 (rows.map λr=>r.map dval)=low):
 Cl 200 #[.slice a L cap] w λe w'=>∃v,e=.returned (.tuple #[v,af (-low)])/\
  jp w' w.heap.size n ((rows.map λr=>r.map dval).map λr=>r.map (rR low)) L v/\Bw w w':=by
 obtain⟨i0,hi,hz0,hz1,hz2⟩:=info_parts Tryz.aBx;obtain⟨j0,hj,hy0,hy1,hy2⟩:=info_parts Tryz.aBz;obtain⟨D,hD⟩:=az (rows.map λr=>r.map dval);have LJ:D.length=L:=by rw[<-hD];simp[hL]
 have hDk:∀k (h:k<rows.length) (h':k<D.length),D[k]=rows[k].map dval:=λk h h'=>by subst hD;simp
 have Gl:∀r∈D,∀d∈r,-268435456<=dE d/\dE d<=268435456:=by intro r hr d hd;rw[<-hD]at hr;obtain⟨r',hr',rfl⟩:=List.mem_map.1 hr;obtain⟨x,hx,rfl⟩:=List.mem_map.1 hd;exact(((hfit r' hr' x hx).2).fit zo).1.2
 rw[hD]at kq⊢;have hlo:low<=0/\∀r∈D,∀d∈r,low<=dE d:=by rw[<-kq];exact Um 0 D
 have hlb: -268435456<=low:=by rw[<-kq];exact Ul 0 D _ zd (λr hr d hd=>(Gl r hr d hd).1)
 have Im:∀k j (h:k<D.length) (h':j<=D[k].length),-268435456<=mL (nI 0 (D.take k)) (D[k].take j)/\mL (nI 0 (D.take k)) (D[k].take j)<=0:=by intro k j h h';have g1: -268435456<=nI 0 (D.take k):=Ul 0 _ _ zd (λr hr d hd=>(Gl r (List.mem_of_mem_take hr) d hd).1);have g2:=(Um 0 (D.take k)).1;have g3:=(aeJ (nI 0 (D.take k)) (D[k].take j)).1;exact⟨aeI _ _ _ g1 (λd hd=>(Gl _ (List.getElem_mem h) d (List.mem_of_mem_take hd)).1),by omega⟩
 obtain⟨Hi,cm,bR,bZ,Hj,kM,kN,kO,NP,Wk,HDe,ajt⟩:=gL hi hz0 hz1 hz2 hj hy0 hy1 hy2 LJ hDk Gl kq;obtain⟨EZ,Hlb,Kj,Ha,HT,sG,xz,HL⟩:=lC hlo hlb Im ha hT hrow hfit hL;have hnl:IntKind.i64.wrap (-low)= -low:=by rw[IntKind.wrap_i64];omega
 obtain⟨nl,Te⟩:=az (-low);obtain⟨S,hS⟩:=az (D.map λr=>r.map (rR low));have oX:∀k (h:k<D.length),S.getD k []=D[k].map (rR low):=λk h=>by subst hS;simp[h]
 rw[hS,Te];have acZ:IntKind.i64.wrap (-low)=nl:=by rw[hnl,Te]
 obtain⟨zW,vD⟩:=aI acZ oX;clear hnl Te acZ hS oX hi hz0 hz1 hz2 hj hy0 hy1 hy2 Im hlb hlo Gl hDk LJ kq ha hT hrow hfit hL hD;go_enter Tryz.func200,Tryz.ntmps200;have Hb:=hbz w;go_wp2_with fail;go_loopw[4,18] (λs4 x wr=>∃k:Nat,k<=L/\x=af (k:Int)/\s4=af (nI 0 (D.take k))/\Bw w wr) (λ_ x _=>L-(intOf x).toNat);case atStart=>exact⟨0,Nat.zero_le _,rfl,rfl,Hb.out⟩
 case round=>
  clear Hb;obtain⟨k,hk,rfl,rfl,pb⟩:=hrel;by_cases hlt:k<L
  . have hk2:k<rows.length:=by rw[HL.out];exact hlt
    have hk3:k<D.length:=by rw[NP.out];exact hlt
    obtain⟨p,mI⟩:=az (rows[k]);obtain⟨b,o,a1,c1,hab,hc1,hat⟩:=(Ha.out.below pb).row k hk2;have mH:p.length=n:=by rw[<-mI];exact sG.out _ (List.getElem_mem hk2)
    have iQ:∀x∈p,Fit B x:=by rw[<-mI];exact xz.out _ (List.getElem_mem hk2)
    have vZ:=Wk.out k hk2 hk3;rw[mI]at hc1 hat vZ;rw[mH]at hc1;have pp:=Eb L cap k (k:Int) hab hlt rfl;rw[Nat.mul_one]at pp;have hst:=asC 0 D k hk3;have hpt:=λj (h:j<=n)=>Kj.out k j hk3 (by rw[vZ,List.length_map,mH];exact h);rw[vZ]at hst;simp only[vZ]at hpt;obtain⟨l0,hl0⟩:=az (nI 0 (D.take k));rw[hl0]at hst⊢;simp only[hl0]at hpt;obtain⟨eu,pV,ux,bK,Hpt,aP⟩:=gM hat mH iQ hst hpt pb;clear hat mH iQ hst hpt pb hab mI vZ hl0 hk2 hk3;obtain⟨wc,hwc⟩:∃wc,wc=wr:=⟨_,rfl⟩;subst hwc;have ie:=aP.out.size;go_wp2_with fail;go_loopw[4,24] (λs4 x wr=>∃j:Nat,j<=n/\x=af (j:Int)/\s4=af (mL l0 ((p.map dval).take j))/\Bw wc wr) (λ_ x _=>n-(intOf x).toNat);case atStart=>exact⟨0,Nat.zero_le _,rfl,rfl,Below.refl _ _⟩
    case round=>
     clear hc1;obtain⟨j,hj,rfl,rfl,hb2⟩:=hrel;by_cases bB:j<n
     . have k1:j<p.length:=by rw[pV.out];exact bB
       obtain⟨sp,mp,ep,iR⟩:=oP (p[j]);have fT:=ux.out _ (List.getElem_mem k1);have hst:=asB l0 (p.map dval) j (by simpa using k1);rw[List.getElem_map,iR]at hst;rw[iR]at fT;obtain⟨X,hX⟩:=az (dval (sp,mp,ep));rw[hX]at hst;obtain⟨l1,gJ⟩:=az (mL l0 ((p.map dval).take j));rw[gJ]at hst⊢;obtain⟨b1,o1,eJ,p0,p1,p2⟩:=(eu.out.below hb2).num j k1 iR;have acJ:=ud n c1 j (j:Int) eJ bB rfl;have Hp:Hid (aQ wr b1 (o1+j*3) [ag sp,ah mp,af ep]):=jm p0 p1 p2;obtain⟨qV,HX,zH,sH,dJ⟩:=dY fT.1 hX hb2 hst ((HT.out.below aP.out).below hb2);clear hb2 fT hX hst iR eJ p0 p1 p2 gJ;have Hb:=hbz wr;obtain⟨ae,ai⟩:=qZ (Hp.an trivial);have p1:wr.cell? ⟨b1,o1+j*3+1,none⟩=some (ah mp):=ae.1.out.cell 1 zm;have p0:wr.cell? ⟨b1,o1+j*3,none⟩=some (ag sp):=ae.1.out.cell 0 zm;have p2:wr.cell? ⟨b1,o1+j*3+2,none⟩=some (af ep):=ae.1.out.cell 2 zm;have P0:=p0;have P1:=p1;have P2:=p2;have fl:=ao1 (ag (au (dN X))) (ah (nt (dN X).natAbs)) (af (dE X));obtain⟨W4,ke,aG,ae,ai⟩:=bO wr (Hb.an ae) 45 [ag sp,ah mp,af ep];have HT:Hid (aB W4):=dJ.out.below ae.2.1.out;go_wp2_with fail;refine aK (HT.an ae) (rB sp mp ep X HX.out _ qV.out HT.out) λw5 ae ai=>?_;go_wp2;go_roundw;case rel=>exact⟨j+1,by omega,by go_num,by rw[sH.out],aC zH.out ae.2.2.1.out⟩
       case measure=>exact bf
     . obtain rfl:j=n:=by omega
       have hpt:(p.map dval).take j=p.map dval:=List.take_of_length_le (by simp[pV.out]);rw[hpt];go_wp2;go_roundw;case rel=>exact⟨k+1,by omega,by go_num,by rw[bK.out],aC aP.out hb2⟩
       case measure=>exact bf
  . obtain rfl:k=L:=by omega
    have hDt:D.take k=D:=List.take_of_length_le (by rw[NP.out];exact Nat.le_refl _);rw[hDt,ajt.out];have aP:=aj pb;clear pb hDt;obtain⟨wa,hwa⟩:∃wa,wa=wr:=⟨_,rfl⟩;subst hwa;have VB:=aP.out.size;go_wp2_with fail;go_loopw[9,37] (λs9 x wr=>∃(i:Nat) (v:Value),i<=k/\x=af (i:Int)/\v=s9/\jp wr w.heap.size n S i v/\Bw w wr) (λ_ x _=>k-(intOf x).toNat);case atStart=>exact⟨0,_,Nat.zero_le _,rfl,rfl,jp.nil _ _ _ _,aP.out⟩
    case round=>
     clear aP VB;obtain⟨i,v,hk,rfl,rfl,pv,pb⟩:=hrel;by_cases hlt:i<k
     . have hk2:i<rows.length:=by rw[HL.out];exact hlt
       have hk3:i<D.length:=by rw[NP.out];exact hlt
       obtain⟨p,mI⟩:=az (rows[i]);obtain⟨b,o,a1,c1,hab,hc1,hat⟩:=(Ha.out.below pb).row i hk2;have mH:p.length=n:=by rw[<-mI];exact sG.out _ (List.getElem_mem hk2)
       have iQ:∀x∈p,Fit B x:=by rw[<-mI];exact xz.out _ (List.getElem_mem hk2)
       have vZ:=Wk.out i hk2 hk3;have wj:=vD.out i hk3;have hpl:=EZ.out.2 _ (List.getElem_mem hk3);rw[mI]at hc1 hat vZ;rw[vZ]at wj hpl;rw[mH]at hc1;have pp:=Eb k cap i (i:Int) hab hlt rfl;rw[Nat.mul_one]at pp;obtain⟨Z,hZ⟩:=az ((p.map dval).map (rR low));rw[hZ]at wj;obtain⟨eu,pV,ux,Cc,HZ,lR,aP,ik⟩:=lC hat mH iQ wj hZ hpl pb pv;clear hat mH iQ wj hZ hpl pb pv hab mI vZ hk2 hk3;obtain⟨wc,hwc⟩:∃wc,wc=wr:=⟨_,rfl⟩;subst hwc;have ie:=aP.out.size;go_wp2_with fail;go_loopw[12,43] (λs12 x wr=>∃(j:Nat) (v2:Value),j<=n/\x=af (j:Int)/\v2=s12/\wr.ownsRow wc.heap.size 43 2 v2 j (zC (Z.take j))/\Bw wc wr) (λ_ x _=>n-(intOf x).toNat);case atStart=>exact⟨0,_,Nat.zero_le _,rfl,rfl,World.ownsRow_nil _ _ _ _,Below.refl _ _⟩
       case round=>
        clear hc1;obtain⟨j,v2,hj,rfl,rfl,ho,hb2⟩:=hrel;by_cases bB:j<n
        . have k1:j<p.length:=by rw[pV.out];exact bB
          obtain⟨sp,mp,ep,iR⟩:=oP (p[j]);have fT:=ux.out _ (List.getElem_mem k1);rw[iR]at fT;obtain⟨X,hX⟩:=az (dval (sp,mp,ep));have hle:low<=dE X:=lR.out X (by rw[<-hX,<-iR];exact List.mem_map_of_mem (List.getElem_mem k1));have dR:Sm B X:=by rw[<-hX];exact fT.2
          have Sj:=(dR.fit zo).1;have kg:(nt (dN X).natAbs).length<=268435456:=Sj.1;have hXe: -268435456<=dE X/\dE X<=268435456:=Sj.2;obtain⟨Y,hY⟩:=az (rR low X);have hlb:=Hlb.out;have hl0:=EZ.out.1;obtain⟨t,ht⟩:∃t:Int,dE X-low=t:=⟨_,rfl⟩;have hwr:IntKind.i64.wrap (dE X-low)=t:=by rw[IntKind.wrap_i64];omega
          have hsh:∀W,Cv 209 #[.agg #[ag (au (dN X)),ah (nt (dN X).natAbs)],af t] W (cP Y):=by intro W;have h:=VN (au (dN X)) (nt (dN X).natAbs) (dE X-low).toNat W zo zo;rw[fu,show((dE X-low).toNat:Int)=t by omega]at h;rw[<-hY];exact h
          have bK:Hid (zC (Z.take (j+1))=zC (Z.take j)++[ag (au Y),ah (nt Y.natAbs)]):=by
           show _=_
           rw[<-HZ.out,List.take_succ_eq_append_getElem (by simpa using k1),axU];congr 1;simp only[List.getElem_map,iR,hX,hY];rfl
          obtain⟨b1,o1,eJ,p0,p1,p2⟩:=(eu.out.below hb2).num j k1 iR;have acJ:=ud n c1 j (j:Int) eJ bB rfl;have Hp:Hid (aQ wr b1 (o1+j*3) [ag sp,ah mp,af ep]):=jm p0 p1 p2;obtain⟨qV,HX,Ho,bY,Cx,mX,dJ⟩:=jx fT.1 hX ho hb2 hsh hwr ((HT.out.below aP.out).below hb2);have Jh:=hb2.size;clear ho hb2 fT hX iR eJ p0 p1 p2 hle dR Sj kg hXe hY hlb hl0 ht hsh hwr;have Hb:=hbz wr;obtain⟨ae,ai⟩:=qZ (Hp.an trivial);have p1:wr.cell? ⟨b1,o1+j*3+1,none⟩=some (ah mp):=ae.1.out.cell 1 zm;have p0:wr.cell? ⟨b1,o1+j*3,none⟩=some (ag sp):=ae.1.out.cell 0 zm;have p2:wr.cell? ⟨b1,o1+j*3+2,none⟩=some (af ep):=ae.1.out.cell 2 zm;have P0:=p0;have P1:=p1;have P2:=p2;obtain⟨W4,ke,aG,ae,ai⟩:=bO wr (Hb.an ae) 45 [ag sp,ah mp,af ep];have HT:Hid (aB W4):=dJ.out.below ae.2.1.out;go_wp2_with fail;refine aK (HT.an ae) (rB sp mp ep X HX.out _ qV.out HT.out) λw5 ae ai=>?_;obtain⟨W6,rC,aG,ae,ai⟩:=bO w5 ae 45 (bu X);have hwr:=mX.out;go_wp2_with fail;refine aK ae (Cx.out _) λw7 ae ai=>?_;clear hwr;obtain⟨W8,abq,aG,ae,ai⟩:=bO w7 ae 43 [ag (au Y),ah (nt Y.natAbs)];have cj:=ownsRow_below Ho.out ae.2.2.2.2.1.out;have jd:=ae.2.2.2.2.1.out.size;have hnews:=fN ae.1.out;skip
          go_wp2_with (at_builtin;refine wpList_append_own_at _ rfl _ _ 226 rfl wc.heap.size 43 i0 _ 2 24 Tryz.underlying226 Hi.out cm.out bR.out bZ.out rfl zd v2 j (zC (Z.take j)) rfl cj ⟨w7.heap.size,0,none⟩ 1 1 [ag (au Y),ah (nt Y.natAbs)] rfl rfl hnews zy zx zo zo ?_;intro v' w9 eZ ko _ _;obtain⟨g',ry,rfl⟩:=ownsRow_succ eZ);go_roundw;case rel=>
           refine⟨j+1,_,by omega,by go_num,rfl,?_,?_⟩
           . rw[bK.out];exact eZ
           . exact(aC bY.out ae.2.2.2.2.1.out).grown ko zo (λj e=>cK cj j e)
          case measure=>exact bf
        . obtain rfl:j=n:=by omega
          have oY:Z.take j=Z:=List.take_of_length_le (by rw[<-HZ.out];simp[pV.out]);rw[oY]at ho;obtain⟨a2,cap2,rfl,_,_⟩:=cz ho;have jb:=ho.lt;obtain⟨vals,hvl,hov,oz,Iy⟩:=ik.out;have iF:∀g,(Value.slice a2 j cap2).ownBlock=some g->∀m (h:m<vals.length),vals[m].ownBlock≠some g:=by intro g h1 m h2 h3;have:=(jb g h1).1;have:=((oz m h2).lt g h3).2;omega
          obtain⟨OL,sK,vL,dv,bY,PR,Ho⟩:=jx iF hvl oz hov hb2 Iy ho;have Hb:=hbz wr;have Jh:=hb2.size;clear iF hvl hov oz hb2 Iy jb oY ho bB hj;obtain⟨W6,rC,aG,ae,ai⟩:=bO wr (Hb.an trivial) 226 [.slice a2 j cap2];have Ry:=aC bY.out ae.2.1.out;have cj:=ownsRow_below dv.out Ry;have jd:=ae.2.1.out.size;have hnews:∀i u,([.slice a2 j cap2]:List Value)[i]?=some u->W6.cell? ((⟨wr.heap.size,0,none⟩:Addr).add i)=some u:=fN ae.1.out;skip
          go_wp2_with (at_builtin;refine wpList_append_own_at _ rfl _ _ 211 rfl w.heap.size 226 j0 _ 1 24 Tryz.underlying211 Hj.out kM.out kN.out kO.out rfl zd v i vals rfl cj ⟨wr.heap.size,0,none⟩ 1 1 [.slice a2 j cap2] rfl rfl hnews zy zx zo zo ?_;intro v' w7 dW eK _ _;obtain⟨g',ry,rfl⟩:=ownsRow_succ dW);go_roundw;case rel=>
           refine⟨i+1,_,by omega,by go_num,rfl,?_,?_⟩
           . refine jp.push (w:=W6) sK.out cj (λm h=>ownsRow_below (vL.out m h) Ry) PR.out ?_ OL.out dW eK;rw[Cc.out];exact rP (ownsRow_below Ho.out ae.2.1.out) zo
           . exact(aC aP.out Ry).grown eK zo (λj e=>cK cj j e)
          case measure=>exact bf
     . obtain rfl:i=k:=by omega
       obtain⟨aP,ik⟩:=aI pb pv;clear pb pv;have hnl:=zW.out;go_wp2;refine bodyPost_ret (v:=.tuple #[v,af nl]) (by simp[results,Tryz.results200,go_sem]) rfl ⟨v,rfl,ik.out,aP.out⟩
end Go.Proofs.YtpfgffadgkkedaaGreatDoor
namespace Go.Proofs.YtpfgffadgkkedaaGreatDoor
open Go.RowKit
def mO {w:World}{base:Nat}{e:TypeId}{size n cap g:Nat}{xs:List Value}(h:w.ownsRow base e size (.slice (some ⟨g,0,none⟩) n cap) n xs)(j:Nat)(hj:j<xs.length):w.cell? ⟨g,j,none⟩=some xs[j]:=by
 rcases h.2 with⟨h1,_⟩ |⟨g',cap',cur,h1,_,hg,_,_,_,hx⟩
 . simp at h1
 . simp only[Value.slice.injEq,Option.some.injEq,Addr.mk.injEq,and_true,true_and]at h1;obtain⟨rfl,rfl⟩:=h1;have h2:cur.toList.take (n*size)=xs:=hx;have h3:cur.toList[j]?=some xs[j]:=by rw[<-List.getElem?_eq_getElem hj];simp only[<-h2];rw[List.getElem?_take];rw[<-h2,List.length_take]at hj;rw[if_pos (Nat.lt_of_lt_of_le hj (Nat.min_le_left _ _))]
   have h4:ar w g e cur.toList:=by unfold ar;simpa using hg
   rw[h4.cell];exact h3
def jS {w:World}{base:Nat}{e:TypeId}{size n cap g:Nat}{xs:List Value}(h:w.ownsRow base e size (.slice (some ⟨g,0,none⟩) n cap) n xs)(j:Nat)(u:Value):(w.setCell ⟨g,j,none⟩ u).ownsRow base e size (.slice (some ⟨g,0,none⟩) n cap) n (xs.set j u):=by
 refine⟨by rw[List.length_set];exact h.1,?_⟩;rcases h.2 with⟨h1,_⟩ |⟨g',cap',cur,h1,hb,hg,h4,h5,h6,hx⟩
 . simp at h1
 . simp only[Value.slice.injEq,Option.some.injEq,Addr.mk.injEq,and_true,true_and]at h1;obtain⟨rfl,rfl⟩:=h1;refine .inr ⟨g,cap,cur.setIfInBounds j u,rfl,hb,?_,h4,h5,by simpa using h6,?_⟩
   . simp[World.setCell,Array.getElem?_modify,hg]
   . rw[<-hx];simp[List.take_set]
def axW (zs:List Int):(zC zs).length=zs.length*2:=iE iC 2 (λ_=>rfl) zs
def axV (zs:List Int)(j:Nat)(hj:j<zs.length):(zC zs)[j*2]?=some (ag (au zs[j]))/\(zC zs)[j*2+1]?=some (ah (nt zs[j].natAbs)):=by
 induction zs generalizing j with
 |nil=>simp at hj
 | cons z zs ih=>
   have e:zC (z::zs)=ag (au z)::ah (nt z.natAbs)::zC zs:=rfl;rw[e];cases j with
   |zero=>exact⟨rfl,rfl⟩
   |succ j=>have:=ih j (by simpa using hj);rw[show(j+1) *2=j*2+1+1 by omega];simpa using this
def axX (zs:List Int)(j:Nat)(hj:j<zs.length)(y:Int):((zC zs).set (j*2) (ag (au y))).set (j*2+1) (ah (nt y.natAbs))=zC (zs.set j y):=by
 induction zs generalizing j with
 |nil=>simp at hj
 | cons z zs ih=>
   have e:zC (z::zs)=ag (au z)::ah (nt z.natAbs)::zC zs:=rfl;rw[e];cases j with
   |zero=>rfl
   |succ j=>have:=ih j (by simpa using hj);rw[show(j+1) *2=j*2+1+1 by omega];simp only[List.set_cons_succ];rw[this];rfl
def jp.num {w:World}{base n L:Nat}{R:List (List Int)}{v:Value}(h:jp w base n R L v)(i j:Nat)(hi:i<L)(hj:j<n)(hR:R.length=L)(hr:(R.getD i []).length=n):
 ∃go cap g c,v=.slice (some ⟨go,0,none⟩) L cap/\base<=go/\base<=g/\g≠go/\w.cell? ⟨go,i,none⟩=some (.slice (some ⟨g,0,none⟩) n c)/\
  w.cell? ⟨g,j*2,none⟩=some (ag (au ((R.getD i []).getD j 0)))/\w.cell? ⟨g,j*2+1,none⟩=some (ah (nt ((R.getD i []).getD j 0).natAbs))/\
  ∀y:Int,jp ((w.setCell ⟨g,j*2,none⟩ (ag (au y))).setCell ⟨g,j*2+1,none⟩ (ah (nt y.natAbs))) base n (R.set i ((R.getD i []).set j y)) L v:=by
 obtain⟨vals,hl,ho,hv,hd⟩:=h;have hi2:i<vals.length:=by omega
 have hrow:=hv i hi2;have hxl:(zC (R.getD i [])).length=n*2:=by rw[axW,hr]
 obtain⟨a0,cap,rfl,_,_⟩:=cz ho;obtain⟨a1,c,e1,_,hab⟩:=cz hrow;rw[e1]at hrow;rcases ho.2 with⟨h1,_⟩ |⟨go,cap',cur,h1,fS,hgo,_⟩
 . simp at h1;omega
 simp only[Value.slice.injEq,true_and]at h1;obtain⟨rfl,rfl⟩:=h1;rcases hrow.2 with⟨h1,_⟩ |⟨g,c',cur',h1,hbg,hgg,_⟩
 . simp at h1;omega
 simp only[Value.slice.injEq,true_and]at h1;obtain⟨rfl,rfl⟩:=h1;have hne:g≠go:=by rintro rfl;rw[hgo]at hgg;simp at hgg
 have hat:=axV (R.getD i []) j zo;have hg0:(R.getD i []).getD j 0=(R.getD i [])[j]'zo:=by rw[List.getD_eq_getElem?_getD,List.getElem?_eq_getElem zo];rfl
 have hc0:=mO hrow (j*2) zo;have hc1:=mO hrow (j*2+1) zo;rw[<-List.getElem?_eq_getElem]at hc0 hc1;rw[hat.1]at hc0;rw[hat.2]at hc1;refine⟨go,cap,g,c,rfl,fS,hbg,hne,?_,by rw[hg0];exact hc0,by rw[hg0];exact hc1,λy=>?_⟩
 . rw[mO ho i zo,e1]
 . refine⟨vals,hl,?_,λm hm=>?_,hd⟩
   . exact ownsRow_setCell_other (ownsRow_setCell_other ho (by simpa[Value.ownBlock]using hne.symm) _) (by simpa[Value.ownBlock]using hne.symm) _
   . by_cases wE:m=i
     . subst wE;have hs:(R.set m ((R.getD m []).set j y)).getD m []=(R.getD m []).set j y:=by rw[List.getD_eq_getElem?_getD,List.getElem?_set_self zo];rfl
       rw[hs,e1,<-axX _ _ zo];exact jS (jS hrow _ _) _ _
     . have hs:(R.set i ((R.getD i []).set j y)).getD m []=R.getD m []:=by rw[List.getD_eq_getElem?_getD,List.getElem?_set_ne (λe=>wE e.symm),<-List.getD_eq_getElem?_getD]
       rw[hs];have hno:vals[m].ownBlock≠some g:=λe=>wE (hd m i hm hi2 g e (by rw[e1];rfl));exact ownsRow_setCell_other (ownsRow_setCell_other (hv m hm) hno _) hno _
def swp (i m k:Nat):Nat:=if k=i then m else if k=m then i else k
def awt {i m a b:Nat}(h:swp i m a=swp i m b):a=b:=by
 unfold swp at h;repeat' split at h
 all_goals omega
def NB {i m k L:Nat}(hi:i<L)(hm:m<L)(hk:k<L):swp i m k<L:=by
 unfold swp;repeat' split
 all_goals omega
def Vn {α:Type}(l:List α)(d:α)(i m:Nat)(hi:i<l.length)(hm:m<l.length)(k:Nat)(hk:k<l.length):((l.set i (l.getD m d)).set m (l.getD i d)).getD k d=l.getD (swp i m k) d:=by
 unfold swp;by_cases h1:k=m
 . subst h1;rw[List.getD_eq_getElem?_getD,List.getElem?_set_self (by simpa using hk)];by_cases h2:k=i
   . subst h2;simp
   . simp[h2]
 . rw[List.getD_eq_getElem?_getD,List.getElem?_set_ne (λe=>h1 e.symm)];by_cases h2:k=i
   . subst h2;rw[List.getElem?_set_self (by simpa using hk)];simp
   . rw[List.getElem?_set_ne (λe=>h2 e.symm)];simp[h1,h2]
def jp.swap {w:World}{base n L go cap:Nat}{R:List (List Int)}(h:jp w base n R L (.slice (some ⟨go,0,none⟩) L cap))(i m:Nat)(hi:i<L)(hm:m<L)(hR:R.length=L):
 ∃x y,w.cell? ⟨go,i,none⟩=some x/\w.cell? ⟨go,m,none⟩=some y/\jp ((w.setCell ⟨go,i,none⟩ y).setCell ⟨go,m,none⟩ x) base n ((R.set i (R.getD m [])).set m (R.getD i [])) L (.slice (some ⟨go,0,none⟩) L cap):=by
 obtain⟨vals,hl,ho,hv,hd⟩:=h;have hi2:i<vals.length:=by omega
 have hm2:m<vals.length:=by omega
 have hgo:∀k (hk:k<vals.length),vals[k].ownBlock≠some go\/vals[k].ownBlock=none:=by
  intro k hk;rcases BP (hv k hk) ho zd with e|e
  . exact .inr e
  . exact .inl e
 have hel:∀k (hk:k<vals.length),((vals.set i vals[m]).set m vals[i])[k]'(by simpa using hk)=vals[swp i m k]'(NB hi2 hm2 hk):=by intro k hk;have:=Vn vals (ag false) i m hi2 hm2 k hk;have hs:=NB hi2 hm2 hk;simpa[List.getD_eq_getElem?_getD,List.getElem?_eq_getElem,hi2,hm2,hk,hs]using this
 refine⟨vals[i],vals[m],mO ho i zo,mO ho m zo,_,by simp[hl],jS (jS ho i _) m _,λk hk=>?_,λa b ha hb g e1 e2=>?_⟩
 . have hk2:k<vals.length:=by simpa using hk
   have hs:=NB hi2 hm2 hk2;rw[hel k hk2,Vn R [] i m zo zo k zo];have hno:vals[swp i m k].ownBlock≠some go:=by
    rcases hgo _ hs with e|e
    . exact e
    . rw[e];simp
   exact ownsRow_setCell_other (ownsRow_setCell_other (hv _ hs) hno _) hno _
 . have ha2:a<vals.length:=by simpa using ha
   have hb2:b<vals.length:=by simpa using hb
   rw[hel a ha2]at e1;rw[hel b hb2]at e2;exact awt (hd _ _ _ _ g e1 e2)
end Go.Proofs.YtpfgffadgkkedaaGreatDoor
namespace Go.Proofs.YtpfgffadgkkedaaGreatDoor
open Go.RowKit
attribute [local go_sem ↓] Go.wp_at_zero Go.wp_at_succ
def alJ (bk k g n c:Nat)(z:Int)(w:World)(hk:w.cell? ⟨bk,0,none⟩=some (af (k:Int)))(hkn:k<n)(h0:w.cell? ⟨g,k*2,none⟩=some (ag (au z)))(h1:w.cell? ⟨g,k*2+1,none⟩=some (ah (nt z.natAbs)))(hz:(nt z.natAbs).length<=1099511627776):
 Cv 248 #[.slice (some ⟨g,0,none⟩) n c,.pointer (some ⟨bk,0,none⟩)] w (ag (decide (z≠0))):=by
 have aU:=wO n c k (k:Int) (show some (⟨g,0,none⟩:Addr)=some ⟨g,0,none⟩from rfl) hkn rfl;rw[Nat.zero_add]at aU;have Hz:=aj hz;obtain⟨s,hs⟩:=az (au z);obtain⟨l,hl⟩:=az (nt z.natAbs);have lv:=λW=>Jq (au z) (nt z.natAbs) W hz;rw[fu]at lv;rw[hs,hl]at lv;rw[hs]at h0;rw[hl]at h1;obtain⟨t,ht⟩:=az (eo z);rw[ht]at lv;have hd:decide (z≠0)=decide (t≠0):=by
  rw[<-ht];unfold eo;by_cases h:z=0
  . simp[h]
  . by_cases h2:z<0
    . simp[h,h2]
    . simp[h,h2]
 rw[hd];have jE:=aj lv;clear lv hd ht hs hl hz Hz;have Hb:=hbz w;go_enter Tryz.func248,Tryz.ntmps248;go_wp2_with fail;refine aK (Hb.an trivial) (jE.out _) λw1 ae ai=>?_;clear h0 h1 hk aU;go_wp2;refine bodyPost_ret (results_tmp rfl _ _ _) rfl ⟨?_,ae.1.out⟩;by_cases h:t=0<;>simp[h]
def arz (p:Value->Bool)(vs:List Value)(q:Nat->Bool)(c:Nat)(h:∀i (hi:i<vs.length),p vs[i]=q i):
 idxFrom p vs c=match (List.range vs.length).find? q with|none=>-1|some m=>((c+m:Nat):Int):=by
 induction vs generalizing c q with
 |nil=>rfl
 | cons v vs ih=>
   have h0:=h 0 zm;have hs:=ih (λi=>q (i+1)) (c+1) (λi hi=>h (i+1) (by simpa using hi));simp only[List.getElem_cons_zero]at h0;rw[List.length_cons,List.range_succ_eq_map,List.find?_cons];unfold idxFrom;rw[h0];cases hq:q 0 with
   |true=>simp
   | false=>
     rw[hs,List.find?_map];simp only[Bool.false_eq_true,if_false];have e:(q∘Nat.succ)=λi=>q (i+1):=rfl;rw[e];cases (List.range vs.length).find? λi=>q (i+1)with
     |none=>rfl
     |some m=>simp only[Option.map_some];congr 1;omega
def aus (p:Value->Bool)(vals:List Value)(f:Nat->Nat->Int)(n k:Nat)(hn:vals.length=n)(h:∀i (hi:i<vals.length),p vals[i]=decide (f i k≠0)):
 idxFrom p (vals.drop k) 0=match qN f n k with|none=>-1|some m=>(m:Int):=by
 rw[arz p (vals.drop k) (λi=>f (k+i) k !=0) 0 (λi hi=>by
  rw[List.getElem_drop,h]
  simp[bne,Bool.beq_eq_decide_eq])]
 unfold qN;rw[List.length_drop,hn];simp only[Nat.zero_add]
def axk (x y:Int)(w:World)(hx:(nt x.natAbs).length<=34359738368)(hy:(nt y.natAbs).length<=34359738368)(h0:y≠0)(hd:y∣x):
 Cl 250 #[.agg #[ag (au x),ah (nt x.natAbs)],.agg #[ag (au y),ah (nt y.natAbs)]] w λe w'=>∃r,e=.returned (.tuple #[cP (x/y),r,ag true])/\Bw w w':=by
 have h:=axl (au x) (au y) (nt x.natAbs) (nt y.natAbs) w hx hy (by rw[ji];omega) (by rw[ji,ji];exact Nat.mod_eq_zero_of_dvd (Int.natAbs_dvd_natAbs.2 hd));rw[fu,fu]at h;exact h
end Go.Proofs.YtpfgffadgkkedaaGreatDoor
namespace Go.Proofs.YtpfgffadgkkedaaGreatDoor
open Go.RowKit
def eT (f:Nat->Nat->Int)(n:Nat):List (List Int):=(List.range n).map λa=>(List.range n).map (f a)
def Jj (f:Nat->Nat->Int)(n:Nat):(eT f n).length=n:=by simp[eT]
def ND (f:Nat->Nat->Int)(n i:Nat)(h:i<n):(eT f n).getD i []=(List.range n).map (f i):=by simp[eT,List.getD_eq_getElem?_getD,h]
def awA (f:Nat->Nat->Int)(n i j:Nat)(h:i<n)(h':j<n):((eT f n).getD i []).getD j 0=f i j:=by rw[ND f n i h];simp[List.getD_eq_getElem?_getD,h']
def awB (f:Nat->Nat->Int)(n i j:Nat)(y:Int)(h:i<n):(eT f n).set i (((eT f n).getD i []).set j y)=eT (λa b=>if a=i/\b=j then y else f a b) n:=by
 rw[ND f n i h];apply List.ext_getElem
 . simp[eT]
 . intro a h1 h2;have ha:a<n:=by simpa[eT]using h2
   rw[List.getElem_set];split
   . rename_i e
     subst e;apply List.ext_getElem
     . simp[eT]
     . intro b h3 h4;have hb:b<n:=by simpa[eT]using h4
       rw[List.getElem_set];by_cases e2:j=b
       . subst e2;simp[eT]
       . have e3:¬b=j:=λe=>e2 e.symm;simp[eT,e2,e3]
   . rename_i e
     have e3:¬a=i:=λe'=>e e'.symm;simp[eT,e3]
def awC (f:Nat->Nat->Int)(n k m:Nat)(h:k<n)(h':m<n):((eT f n).set k ((eT f n).getD m [])).set m ((eT f n).getD k [])=eT (bV f k m) n:=by
 apply List.ext_getElem
 . simp[eT]
 . intro a h1 h2;have ha:a<n:=by simpa[eT]using h2
   have hs:=Vn (eT f n) [] k m (by rw[Jj];exact h) (by rw[Jj];exact h') a (by rw[Jj];exact ha);rw[List.getD_eq_getElem?_getD,List.getElem?_eq_getElem h1]at hs;simp only[Option.getD_some]at hs;rw[hs,ND f n _ (NB h h' ha)];simp[eT,bV,swp]
def Eo {w:World}{base:Nat}{e:TypeId}{size n cap g:Nat}{xs:List Value}(h:w.ownsRow base e size (.slice (some ⟨g,0,none⟩) n cap) n xs):base<=g/\∃cur,ar w g e cur:=by
 rcases h.2 with⟨h1,_⟩ |⟨g',cap',cur,h1,hb,hg,_,_,_,hx⟩
 . simp at h1
 . simp only[Value.slice.injEq,Option.some.injEq,Addr.mk.injEq,and_true,true_and]at h1;obtain⟨rfl,rfl⟩:=h1;exact⟨hb,cur.toList,by unfold ar;simpa using hg⟩
def UG {w:World}{base:Nat}{e:TypeId}{size n:Nat}{v:Value}{xs:List Value}(h:w.ownsRow base e size v n xs)(hn:1<=n):∃g cap,v=.slice (some ⟨g,0,none⟩) n cap:=by
 rcases h.2 with⟨h1,h2⟩ |⟨g',cap',cur,h1,_⟩
 . omega
 . exact⟨g',cap',h1⟩
def awz {f g:Nat->Nat->Int}(n:Nat)(h:∀a b,a<n->b<n->f a b=g a b):eT f n=eT g n:=by unfold eT;refine List.map_congr_left (λa ha=>List.map_congr_left (λb hb=>h a b (List.mem_range.1 ha) (List.mem_range.1 hb)))
def ala (w:World)(go L top:Nat):Prop:=go<top/\∀m g n c,m<L->w.cell? ⟨go,m,none⟩=some (.slice (some ⟨g,0,none⟩) n c)->g<top
def BS (w0 w:World)(base n go cap top:Nat)(f:Nat->Nat->Int):Prop:=
 jp w base n (eT f n) n (.slice (some ⟨go,0,none⟩) n cap)/\ala w go n top/\Below base w0 w/\top<=w.heap.size
def BS.begin {w:World}{base n:Nat}{f:Nat->Nat->Int}{v:Value}(h:jp w base n (eT f n) n v)(hn:1<=n):∃go cap,v=.slice (some ⟨go,0,none⟩) n cap/\n<=cap/\BS w w base n go cap w.heap.size f:=by
 have h0:=h;obtain⟨vals,hl,ho,hv,_⟩:=h;obtain⟨go,cap,rfl⟩:=UG ho hn;refine⟨go,cap,rfl,BH ho,h0,⟨?_,λm g n' c hm hc=>?_⟩,Below.refl _ _,Nat.le_refl _⟩
 . obtain⟨_,cur,hb⟩:=Eo ho;exact hb.lt
 . have hm2:m<vals.length:=by omega
   rw[mO ho m hm2]at hc;simp only[Option.some.injEq]at hc;have hrow:=hv m hm2;obtain⟨g',cap',e⟩:=UG hrow hn;rw[e]at hrow hc;simp at hc;obtain⟨rfl,rfl,rfl⟩:=hc;exact(Eo hrow).2.choose_spec.lt
def BS.below {w0 w w':World}{base n go cap top:Nat}{f:Nat->Nat->Int}(h:BS w0 w base n go cap top f)(hb:Bw w w')(pg:base<=top):BS w0 w' base n go cap top f:=by
 obtain⟨h1,⟨h2,h3⟩,h4,h5⟩:=h;have hs:=hb.size;refine⟨h1.below hb,⟨h2,λm g n' c hm hc=>h3 m g n' c hm ?_⟩,?_,by omega⟩
 . rw[World.cell?_of_block (a:=⟨go,m,none⟩) (w:=w) (hb.block go zo)]at hc;exact hc
 . exact h4.trans (hb.mono zo)
def BS.congr {w0 w:World}{base n go cap top:Nat}{f g:Nat->Nat->Int}(h:BS w0 w base n go cap top f)(he:∀a b,a<n->b<n->f a b=g a b):BS w0 w base n go cap top g:=by unfold BS at*;rw[<-awz n he];exact h
def BS.row {w0 w:World}{base n go cap top:Nat}{f:Nat->Nat->Int}(h:BS w0 w base n go cap top f)(i:Nat)(hi:i<n):
 ∃g c,base<=g/\g<top/\w.cell? ⟨go,i,none⟩=some (.slice (some ⟨g,0,none⟩) n c)/\(∀j,j<n->w.cell? ⟨g,j*2,none⟩=some (ag (au (f i j)))/\w.cell? ⟨g,j*2+1,none⟩=some (ah (nt (f i j).natAbs)))/\
  (∀q,w.frozen? ⟨g,q,none⟩=false)/\
  ∀j,j<n->∀y:Int,BS w0 ((w.setCell ⟨g,j*2,none⟩ (ag (au y))).setCell ⟨g,j*2+1,none⟩ (ah (nt y.natAbs))) base n go cap top (λa b=>if a=i/\b=j then y else f a b):=by
 obtain⟨h1,⟨h2,h3⟩,h4,h5⟩:=h;have hR:(eT f n).length=n:=Jj f n;have hr:((eT f n).getD i []).length=n:=by rw[ND f n i hi];simp
 obtain⟨vals,hl,ho,hv,hd⟩:=id h1;have hi2:i<vals.length:=by omega
 have hrow:=hv i hi2;obtain⟨g,c,e⟩:=UG hrow zo;rw[e]at hrow;obtain⟨hbg,cur,hblk⟩:=Eo hrow;have hc0:w.cell? ⟨go,i,none⟩=some (.slice (some ⟨g,0,none⟩) n c):=by rw[mO ho i hi2,e]
 refine⟨g,c,hbg,h3 i g n c hi hc0,hc0,λj hj=>?_,λq=>hblk.free q,λj hj y=>?_⟩
 . obtain⟨go',cap',g',c',e0,_,_,_,e1,e2,e3,_⟩:=h1.num i j hi hj hR hr;simp at e0;obtain⟨rfl,rfl⟩:=e0;rw[hc0]at e1;simp at e1;obtain⟨rfl,rfl⟩:=e1;rw[awA f n i j hi hj]at e2 e3;exact⟨e2,e3⟩
 . obtain⟨go',cap',g',c',e0,hb1,hb2,hne,e1,e2,e3,hw⟩:=h1.num i j hi hj hR hr;simp at e0;obtain⟨rfl,rfl⟩:=e0;rw[hc0]at e1;simp at e1;obtain⟨rfl,rfl⟩:=e1;have h6:=hw y;rw[awB f n i j y hi]at h6;refine⟨h6,⟨h2,λm g' n' c' hm hc=>h3 m g' n' c' hm ?_⟩,(h4.setCell hb2 _).setCell hb2 _,by simpa using h5⟩;rw[World.cell?_setCell_far _ _ _ _ (by simpa using hne),World.cell?_setCell_far _ _ _ _ (by simpa using hne)]at hc;exact hc
def BS.swap {w0 w:World}{base n go cap top:Nat}{f:Nat->Nat->Int}(h:BS w0 w base n go cap top f)(i m:Nat)(hi:i<n)(hm:m<n):
 ∃g1 c1 g2 c2,w.cell? ⟨go,i,none⟩=some (.slice (some ⟨g1,0,none⟩) n c1)/\w.cell? ⟨go,m,none⟩=some (.slice (some ⟨g2,0,none⟩) n c2)/\(∀q,w.frozen? ⟨go,q,none⟩=false)/\
  BS w0 ((w.setCell ⟨go,i,none⟩ (.slice (some ⟨g2,0,none⟩) n c2)).setCell ⟨go,m,none⟩ (.slice (some ⟨g1,0,none⟩) n c1)) base n go cap top (bV f i m):=by
 have hb:=h;obtain⟨g1,c1,_,t1,e1,_⟩:=hb.row i hi;obtain⟨g2,c2,_,t2,e2,_⟩:=hb.row m hm;obtain⟨h1,⟨h2,h3⟩,h4,h5⟩:=h;obtain⟨_,_,ho,_,_⟩:=id h1;obtain⟨fS,cur,hblk⟩:=Eo ho;obtain⟨x,y,q1,q2,hw⟩:=h1.swap i m hi hm (Jj f n);rw[e1]at q1;rw[e2]at q2;simp only[Option.some.injEq]at q1 q2;subst q1 q2;rw[awC f n i m hi hm]at hw;refine⟨g1,c1,g2,c2,e1,e2,λq=>hblk.free q,hw,⟨h2,λm' g' n' c' hm' hc=>?_⟩,(h4.setCell fS _).setCell fS _,by simpa using h5⟩;by_cases h7:m'=m
 . subst h7;rw[ar.cell ((hblk.set i _).set m' _)]at hc;rw[List.getElem?_set_self']at hc;have:g'=g1:=by
    cases hq:(cur.set i (.slice (some ⟨g2,0,none⟩) n c2))[m']? with
    |none=>rw[hq]at hc;simp at hc
    |some z=>rw[hq]at hc;simp at hc;exact hc.1.symm
   omega
 . rw[World.cell?_setCell_other _ _ _ _ (show(⟨go,m,none⟩:Addr)≠⟨go,m',none⟩from λe=>h7 (by simpa using e.symm))]at hc;by_cases h8:m'=i
   . subst h8;rw[ar.cell (hblk.set m' _),List.getElem?_set_self']at hc;have:g'=g2:=by
      cases hq:cur[m']? with
      |none=>rw[hq]at hc;simp at hc
      |some z=>rw[hq]at hc;simp at hc;exact hc.1.symm
     omega
   . rw[World.cell?_setCell_other _ _ _ _ (show(⟨go,i,none⟩:Addr)≠⟨go,m',none⟩from λe=>h8 (by simpa using e.symm))]at hc;exact h3 m' g' n' c' hm' hc
end Go.Proofs.YtpfgffadgkkedaaGreatDoor
namespace Go.Proofs.YtpfgffadgkkedaaGreatDoor
open Go.RowKit
attribute [local go_sem ↓] Go.wp_at_zero Go.wp_at_succ
def BT (w0 w:World)(base n go cap top:Nat)(f:Nat->Nat->Int)(r l kb:Nat)(last:Int)(k:Nat):Prop:=
 BS w0 w base n go cap top f/\ar w r 43 [ag false,.string ⟨#[]⟩]/\ar w l 43 [ag (au last),ah (nt last.natAbs)]/\ar w kb 3 [af (k:Int)]/\base<=top/\top<=r/\top<=l/\top<=kb
def BT.below {w0 w w':World}{base n go cap top:Nat}{f:Nat->Nat->Int}{r l kb:Nat}{last:Int}{k:Nat}(h:BT w0 w base n go cap top f r l kb last k)(hb:Bw w w'):BT w0 w' base n go cap top f r l kb last k:=by obtain⟨h1,h2,h3,h4,h5,h6⟩:=h;exact⟨h1.below hb h5,h2.below hb,h3.below hb,h4.below hb,h5,h6⟩
def BT.congr {w0 w:World}{base n go cap top:Nat}{f g:Nat->Nat->Int}{r l kb:Nat}{last:Int}{k:Nat}(h:BT w0 w base n go cap top f r l kb last k)(he:∀a b,a<n->b<n->f a b=g a b):BT w0 w base n go cap top g r l kb last k:=
 ⟨h.1.congr he,h.2⟩
def BT.drew {w0 w:World}{base n go cap top:Nat}{f:Nat->Nat->Int}{r l kb:Nat}{last:Int}{k:Nat}(h:BT w0 w base n go cap top f r l kb last k):BT w0 w.drew base n go cap top f r l kb last k:=h.below ((Below.refl _ _).drew)
def BT.row {w0 w:World}{base n go cap top:Nat}{f:Nat->Nat->Int}{r l kb:Nat}{last:Int}{k:Nat}(h:BT w0 w base n go cap top f r l kb last k)(i:Nat)(hi:i<n):
 ∃g c,g<w.heap.size/\g<top/\w.cell? ⟨go,i,none⟩=some (.slice (some ⟨g,0,none⟩) n c)/\(∀j,j<n->w.cell? ⟨g,j*2,none⟩=some (ag (au (f i j)))/\w.cell? ⟨g,j*2+1,none⟩=some (ah (nt (f i j).natAbs)))/\
  (∀q,w.frozen? ⟨g,q,none⟩=false)/\
  ∀j,j<n->∀y:Int,BT w0 ((w.setCell ⟨g,j*2,none⟩ (ag (au y))).setCell ⟨g,j*2+1,none⟩ (ah (nt y.natAbs))) base n go cap top (λa b=>if a=i/\b=j then y else f a b) r l kb last k:=by
 obtain⟨h1,h2,h3,h4,h5,h6,h7,h8⟩:=h;have h9:=h1.2.2.2;obtain⟨g,c,hb,ht,e1,e2,e3,hw⟩:=h1.row i hi;refine⟨g,c,by omega,ht,e1,e2,e3,λj hj y=>⟨hw j hj y,?_,?_,?_,h5,h6,h7,h8⟩⟩
 . exact(h2.so _ _ zo _).so _ _ zo _
 . exact(h3.so _ _ zo _).so _ _ zo _
 . exact(h4.so _ _ zo _).so _ _ zo _
def BT.swap {w0 w:World}{base n go cap top:Nat}{f:Nat->Nat->Int}{r l kb:Nat}{last:Int}{k:Nat}(h:BT w0 w base n go cap top f r l kb last k)(i m:Nat)(hi:i<n)(hm:m<n):
 ∃g1 c1 g2 c2,w.cell? ⟨go,i,none⟩=some (.slice (some ⟨g1,0,none⟩) n c1)/\w.cell? ⟨go,m,none⟩=some (.slice (some ⟨g2,0,none⟩) n c2)/\(∀q,w.frozen? ⟨go,q,none⟩=false)/\
  BT w0 ((w.setCell ⟨go,i,none⟩ (.slice (some ⟨g2,0,none⟩) n c2)).setCell ⟨go,m,none⟩ (.slice (some ⟨g1,0,none⟩) n c1)) base n go cap top (bV f i m) r l kb last k:=by
 obtain⟨h1,h2,h3,h4,h5,h6,h7,h8⟩:=h;have h9:=h1.2.1.1;obtain⟨g1,c1,g2,c2,e1,e2,e3,hw⟩:=h1.swap i m hi hm;refine⟨g1,c1,g2,c2,e1,e2,e3,hw,?_,?_,?_,h5,h6,h7,h8⟩
 . exact(h2.so _ _ zo _).so _ _ zo _
 . exact(h3.so _ _ zo _).so _ _ zo _
 . exact(h4.so _ _ zo _).so _ _ zo _
def BT.aBF {w0 w:World}{base n go cap top:Nat}{f:Nat->Nat->Int}{r l kb:Nat}{last:Int}{k:Nat}(h:BT w0 w base n go cap top f r l kb last k)(i:Nat)(hi:i<n):
 ∃g c,g<w.heap.size/\g<top/\w.cell? ⟨go,i,none⟩=some (.slice (some ⟨g,0,none⟩) n c)/\(∀j,j<n->w.cell? ⟨g,j*2,none⟩=some (ag (au (f i j)))/\w.cell? ⟨g,j*2+1,none⟩=some (ah (nt (f i j).natAbs)))/\
  ∀w',Bw w w'->(∀q,w'.frozen? ⟨g,q,none⟩=false)/\∀j,j<n->∀y:Int,BT w0 ((w'.setCell ⟨g,j*2,none⟩ (ag (au y))).setCell ⟨g,j*2+1,none⟩ (ah (nt y.natAbs))) base n go cap top (λa b=>if a=i/\b=j then y else f a b) r l kb last k:=by
 obtain⟨g,c,h1,h2,h3,h4,_,_⟩:=h.row i hi;refine⟨g,c,h1,h2,h3,h4,λw' hb=>?_⟩;obtain⟨g',c',_,_,e3,_,e5,e6⟩:=(h.below hb).row i hi;have:=cell_later hb h3;rw[e3]at this;simp at this;obtain⟨rfl,rfl⟩:=this;exact⟨e5,e6⟩
def BS.setOther {w0 w:World}{base n go cap top:Nat}{f:Nat->Nat->Int}(h:BS w0 w base n go cap top f)(pg:base<=top)(p o:Nat)(u:Value)(hp:top<=p):BS w0 (w.setCell ⟨p,o,none⟩ u) base n go cap top f:=by
 have hbs:=h;obtain⟨⟨vals,hl,ho,hv,hd⟩,⟨h2,h3⟩,h4,h5⟩:=h;refine⟨⟨vals,hl,ownsRow_setCell_other ho (by simp[Value.ownBlock];omega) _,λi hi=>?_,hd⟩,⟨h2,λm g n' c hm hc=>h3 m g n' c hm ?_⟩,h4.setCell zp _,by simpa using h5⟩
 . obtain⟨g,c,_,ht,e,_⟩:=hbs.row i zo;rw[mO ho i hi]at e;have e1:vals[i]=.slice (some ⟨g,0,none⟩) n c:=by simpa using e
   exact ownsRow_setCell_other (hv i hi) (by rw[e1];simp[Value.ownBlock];omega) _
 . rw[World.cell?_setCell_far _ _ _ _ zp]at hc;exact hc
def BT.setLast {w0 w:World}{base n go cap top:Nat}{f:Nat->Nat->Int}{r l kb:Nat}{last:Int}{k:Nat}(h:BT w0 w base n go cap top f r l kb last k)(x:Int)(h1:l≠r)(h2:l≠kb):
 BT w0 ((w.setCell ⟨l,0,none⟩ (ag (au x))).setCell ⟨l,1,none⟩ (ah (nt x.natAbs))) base n go cap top f r l kb x k:=by
 obtain⟨q1,q2,q3,q4,q5,q6,q7,q8⟩:=h;exact⟨(q1.setOther q5 l 0 _ q7).setOther q5 l 1 _ q7,(q2.so _ _ h1 _).so _ _ h1 _,(q3.set 0 _).set 1 _,(q4.so _ _ h2 _).so _ _ h2 _,q5,q6,q7,q8⟩
def axp (x y N:Int)(h:x-y=N)(w:World)(hx:(nt x.natAbs).length<=34359738368)(hy:(nt y.natAbs).length<=34359738368):
 Cv 249 #[.agg #[ag (au x),ah (nt x.natAbs)],.agg #[ag (au y),ah (nt y.natAbs)]] w (cP N):=by
 have:=VO (au x) (nt x.natAbs) (au y) (nt y.natAbs) w hx hy;rw[fu,fu,h]at this;exact this
def agJ (x y N:Int)(h:x*y=N)(b cap:Nat)(ty:TypeId)(w:World)(hx:(nt x.natAbs).length<=17179869184)(hy:(nt y.natAbs).length<=17179869184)(ha:ar w b ty [ag (au x),ah (nt x.natAbs),ag (au y),ah (nt y.natAbs)]):
 Cv 126 #[.slice (some ⟨b,0,none⟩) 2 cap] w (cP N):=
 agK _ _ _ _ N (by rw[fu,fu,h]) b cap ty w hx hy ha
def BS.row_ne {w0 w:World}{base n go cap top:Nat}{f:Nat->Nat->Int}(h:BS w0 w base n go cap top f)(i:Nat)(hi:i<n){g c:Nat}(hc:w.cell? ⟨go,i,none⟩=some (.slice (some ⟨g,0,none⟩) n c)):g≠go:=by
 obtain⟨⟨vals,hl,ho,hv,hd⟩,_⟩:=h;have hi2:i<vals.length:=by omega
 rw[mO ho i hi2]at hc;simp only[Option.some.injEq]at hc;have hrow:=hv i hi2;rw[hc]at hrow;obtain⟨_,c1,b1⟩:=Eo hrow;obtain⟨_,c2,b2⟩:=Eo ho;rintro rfl;have:=b1.symm.trans b2;simp at this
def IW (f:Nat->Nat->Int)(n k:Nat):Int:=match qN f n k with|none=>-1|some m=>(m:Int)
open Classical in
def BS.index {w0 w:World}{base n go cap top:Nat}{f:Nat->Nat->Int}(h:BS w0 w base n go cap top f)(k kb:Nat)(hk:k<n)(hn:n<=8)(hkb:w.cell? ⟨kb,0,none⟩=some (af (k:Int)))(hz:∀a b,a<n->b<n->(nt (f a b).natAbs).length<=1099511627776):
 Cv 247 #[.slice (some ⟨go,k,none⟩) (n-k) (cap-k),.func (.func 248) #[] #[.pointer (some ⟨kb,0,none⟩)]] w (af (IW f n k)):=by
 have hbs:=h;obtain⟨h1,_,_,_⟩:=h;obtain⟨vals,hl,ho,hv,hd⟩:=h1;have hrow:∀i (hi:i<vals.length),∃g c,vals[i]=.slice (some ⟨g,0,none⟩) n c/\∀j,j<n->w.cell? ⟨g,j*2,none⟩=some (ag (au (f i j)))/\w.cell? ⟨g,j*2+1,none⟩=some (ah (nt (f i j).natAbs)):=by intro i hi;obtain⟨g,c,_,_,e1,e2,_⟩:=hbs.row i zo;rw[mO ho i hi]at e1;exact⟨g,c,by simpa using e1,e2⟩
 have hinj:∀i j (hi:i<vals.length) (hj:j<vals.length),vals[i]=vals[j]->i=j:=by intro i j hi hj e;obtain⟨g,c,e1,_⟩:=hrow i hi;exact hd i j hi hj g (by rw[e1];rfl) (by rw[<-e,e1];rfl)
 obtain⟨p,hp⟩:∃p:Value->Bool,∀i (hi:i<vals.length),p vals[i]=decide (f i k≠0):=by
  refine⟨λv=>decide (∃i,∃hi:i<vals.length,vals[i]=v/\f i k≠0),λi hi=>?_⟩;by_cases h0:f i k≠0
  . have:∃j,∃hj:j<vals.length,vals[j]=vals[i]/\f j k≠0:=⟨i,hi,rfl,h0⟩;show decide _=decide _
    rw[decide_eq_true this,decide_eq_true h0]
  . have:¬∃j,∃hj:j<vals.length,vals[j]=vals[i]/\f j k≠0:=by rintro⟨j,hj,e,h2⟩;exact h0 (by rw[<-hinj j i hj hi e];exact h2)
    simp only[this,h0,decide_false]
 have hpv:=aus p vals f n k zo hp;have hat:At w (some ⟨go,k,none⟩) (vals.drop k):=by refine .inr ⟨go,k,rfl,λj hj=>?_⟩;rw[List.length_drop]at hj;rw[mO ho (k+j) zo,List.getElem?_drop,List.getElem?_eq_getElem]
 have:=arv (some ⟨go,k,none⟩) (n-k) (cap-k) (vals.drop k) 248 #[.pointer (some ⟨kb,0,none⟩)] p w (by rw[List.length_drop,hl]) zo hat (enters_of Tryz.func248 zk rfl) (λv hv W hb=>by
  obtain⟨i,hi,rfl⟩:=List.mem_iff_getElem.1 hv;rw[List.getElem_drop];have hi2:k+i<vals.length:=by rw[List.length_drop]at hi;omega
  obtain⟨g,c,e1,e2⟩:=hrow (k+i) hi2;obtain⟨e3,e4⟩:=e2 k hk;rw[hp (k+i) hi2,e1]
  exact alJ kb k g n c (f (k+i) k) W (cell_later hb hkb) hk (cell_later hb e3) (cell_later hb e4) (hz _ _ zo hk))
 rw[hpv]at this;exact this
def Bs (w0 w:World)(base n go cap top r l K:Nat)(Z:Int)(k:Nat)(f:Nat->Nat->Int)(last:Int)(t:Bool):Prop:=
 BS w0 w base n go cap top f/\ar w r 43 [ag false,.string ⟨#[]⟩]/\ar w l 43 [ag (au last),ah (nt last.natAbs)]/\gH n (n-k) k f last/\eX n (n-k) k f last t=Z/\last≠0/\
  ∃Q,Q+1<=2^k* (K+1)/\last.natAbs<2^Q/\∀a b,a<n->b<n->(f a b).natAbs<2^Q
def aws (f:Nat->Nat->Int)(k:Nat):bV f k (k+0)=f:=by
 funext a b;unfold bV
 simp only[Nat.add_zero];by_cases h:a=k
 . rw[if_pos h,h]
 . rw[if_neg h,if_neg h]
def Bs.none {w0 w:World}{base n go cap top r l K k:Nat}{Z:Int}{f:Nat->Nat->Int}{last:Int}{t:Bool}(h:Bs w0 w base n go cap top r l K Z k f last t)(hk:k<n)(hp:qN f n k=none):Z=0:=by obtain⟨_,_,_,_,h2,_⟩:=h;rw[show n-k=n-(k+1)+1 by omega]at h2;unfold eX at h2;rw[hp]at h2;exact h2.symm
def Bs.some {w0 w:World}{base n go cap top r l K k m:Nat}{Z:Int}{f:Nat->Nat->Int}{last:Int}{t:Bool}(h:Bs w0 w base n go cap top r l K Z k f last t)(hk:k<n)(hp:qN f n k=some m):
 ∃g,g=bV f k (k+m)/\g k k≠0/\(∀a b,k<a->a<n->k<b->b<n->last∣cd g k a b)/\gH n (n-(k+1)) (k+1) (dH g k last) (g k k)/\eX n (n-(k+1)) (k+1) (dH g k last) (g k k) (t !=decide (0<m))=Z/\
  ∃Q,2*Q+2<=2^(k+1) * (K+1)/\last.natAbs<2^Q/\(∀a b,a<n->b<n->(g a b).natAbs<2^Q)/\(g k k).natAbs<2^(2*Q+1)/\∀a b,a<n->b<n->(dH g k last a b).natAbs<2^(2*Q+1):=by
 obtain⟨_,_,_,h1,h2,h3,Q,hQ,hl,hf⟩:=h;have Bc:=mQ hp;rw[show n-k=n-(k+1)+1 by omega]at h1 h2;unfold gH at h1;unfold eX at h2;rw[hp]at h1 h2;simp only at h1 h2;obtain⟨g,hg⟩:∃g,g=bV f k (k+m):=⟨_,rfl⟩;rw[<-hg]at h1 h2;have iO:∀a b,a<n->b<n->(g a b).natAbs<2^Q:=by
  intro a b ha hb;rw[hg];unfold bV;refine hf _ _ ?_ hb;split
  . omega
  . split
    . omega
    . exact ha
 have Gt:2^Q<=2^(2*Q+1):=Nat.pow_le_pow_right zd zo;refine⟨g,hg,?_,h1.1,h1.2,h2,Q,?_,hl,iO,Nat.lt_of_lt_of_le (iO k k hk hk) Gt,λa b ha hb=>?_⟩
 . rw[hg];unfold bV;rw[if_pos rfl];exact Bc.2
 . rw[Nat.pow_succ];have:2^k*2* (K+1)=2* (2^k* (K+1)):=by rw[Nat.mul_comm (2^k) 2,Nat.mul_assoc]
   omega
 . unfold dH;split
   . rename_i h4
     have h5:=(UA g k a b Q (iO a b ha hb) (iO k k hk hk) (iO a k ha hk) (iO k b hk hb)).2.2;rcases div_lt _ last _ h5 with h6|h6
     . exact h6
     . exact absurd (h1.1 a b h4.1 ha h4.2 hb) h6
   . exact Nat.lt_of_lt_of_le (iO a b ha hb) Gt
def Bs.next {w0 w:World}{base n go cap top r l kb K k:Nat}{Z:Int}{f g:Nat->Nat->Int}{x:Int}{t:Bool}(h:BT w0 w base n go cap top f r l kb x k)(hf:∀a b,a<n->b<n->f a b=g a b)(hx:x≠0)(h1:gH n (n-(k+1)) (k+1) g x)(h2:eX n (n-(k+1)) (k+1) g x t=Z)
 (h3:∃Q,Q+1<=2^(k+1) * (K+1)/\x.natAbs<2^Q/\∀a b,a<n->b<n->(g a b).natAbs<2^Q):Bs w0 w base n go cap top r l K Z (k+1) g x t:=
 ⟨(h.congr hf).1,h.2.1,h.2.2.1,h1,h2,hx,h3⟩
def KG (a0:Act)(w0:World)(cs:List (Addr×Value))(x1 x2 x3 x4 P1 P2 N:Int)(dn:Nat->Bool)(a:Act)(w:World):Prop:=
 ∃v1 v2 v3 v4 v5 v6:Value,a=(((((a0.put (some 76) v1).put (some 77) v2).put (some 92) v3).put (some 93) v4).put (some 94) v5).put (some 10) v6/\jF cs w/\Bw w0 w/\
  (dn 14=true->∃b,v1=.slice (some ⟨b,0,none⟩) 2 2/\ar w b 43 [ag (au x1),ah (nt x1.natAbs),ag (au x2),ah (nt x2.natAbs)])/\(dn 15=true->v2=cP P1)/\
  (dn 30=true->∃b,v3=.slice (some ⟨b,0,none⟩) 2 2/\ar w b 43 [ag (au x3),ah (nt x3.natAbs),ag (au x4),ah (nt x4.natAbs)])/\(dn 31=true->v4=cP P2)/\(dn 32=true->v5=cP N)/\
  (dn 33=true->∃b,v6=.pointer (some ⟨b,0,none⟩)/\w0.heap.size<=b/\ar w b 43 [ag false,.string ⟨#[]⟩])
def KG.init (a:Act)(w0 w:World)(cs:List (Addr×Value))(x1 x2 x3 x4 P1 P2 N:Int)(hk:jF cs w)(hb:Bw w0 w):KG a w0 cs x1 x2 x3 x4 P1 P2 N (λ_=>false) a w:=
 ⟨a.tmps.getD 76 undef,a.tmps.getD 77 undef,a.tmps.getD 92 undef,a.tmps.getD 93 undef,a.tmps.getD 94 undef,a.tmps.getD 10 undef,by rw[Es,Es,Es,Es,Es,Es],hk,hb,(λh=>by cases h),(λh=>by cases h),(λh=>by cases h),(λh=>by cases h),(λh=>by cases h),(λh=>by cases h)⟩
def alK (base n K:Nat)(f:Nat->Nat->Int)(v:Value)(w:World)(hn:1<=n)(aZ:n<=4)(hO:jp w base n (eT f n) n v)(dO:base<=w.heap.size)(De:1<=K)(hK:∀a b,a<n->b<n->(f a b).natAbs<2^K)(hK2:K<=100000000):
 Cl 201 #[v] w λe w'=>e=.returned (cP (eX n n 0 f 1 false))/\Below base w w':=by
 obtain⟨go,cap,rfl,hcap,hbs⟩:=BS.begin hO hn;obtain⟨Z,hZ⟩:=az (eX n n 0 f 1 false);have hex:=aad n hn aZ f;have hsz:∀k Q:Nat,k<=n->Q+1<=2^k* (K+1)->Q<=1800000000:=by intro k Q h1 h2;have h3:2^k<=2^4:=Nat.pow_le_pow_right zd zo;have h4:=Nat.mul_le_mul_right (K+1) h3;omega
 rw[hZ];obtain⟨WY,HZ,Xi,sJ,HK⟩:=dY hbs hZ hex hsz hK;clear hO hbs hZ hex hsz hK;have Hb:=hbz w;go_enter Tryz.func201,Tryz.ntmps201;go_wp2_with fail;refine cX w (Hb.an trivial) 43 [ag false,.string ⟨#[]⟩] λW aG ae ai=>?_;go_wp2_with fail;refine aK ae (VK 1 _ zd zd) λw1 ae ai=>?_;obtain⟨W2,ng,aG,ae,ai⟩:=bO w1 ae 43 [ag (au 1),ah (nt 1)];have We:=aj (WY.out.below ae.2.2.1.out zo);have aqO:w.heap.size<w1.heap.size:=zo;have hq0:=ae.2.1.out;have hq1:=ae.1.out;skip
 have hst:Bs w W2 base n go cap w.heap.size w.heap.size w1.heap.size K Z 0 f 1 false:=⟨We.out,hq0,hq1,Xi.out,HZ.out,by decide,K,by omega,by rw[show(1:Int).natAbs=1 from rfl];exact Nat.one_lt_two_pow zo,HK.out⟩;clear hq0 hq1;have bK:=aj hst;have szW:=ae.2.2.1.out.size;clear hst We WY HK Xi HZ;go_wp2_with fail;go_loopw[5,15] (λs5 x wr=>∃(k:Nat) (f':Nat->Nat->Int) (last:Int) (t:Bool),k<=n/\x=af (k:Int)/\s5=ag t/\Bs w wr base n go cap w.heap.size w.heap.size w1.heap.size K Z k f' last t) (λ_ x _=>n-(intOf x).toNat);case atStart=>exact⟨0,f,1,false,Nat.zero_le _,rfl,rfl,bK.out⟩
 case round=>
  clear bK;obtain⟨k,f',last,t,hk,rfl,rfl,hS⟩:=hrel;obtain⟨wk,hwk⟩:∃wk,wk=wr:=⟨_,rfl⟩;subst hwk;by_cases hlt:k<n
  . obtain⟨Q0,hQ0,_,hQf⟩:=hS.2.2.2.2.2.2;have fR:=sJ.out k Q0 hk hQ0;have hlen:∀a b,a<n->b<n->(nt (f' a b).natAbs).length<=1099511627776:=λa b ha hb=>lA (hQf a b ha hb) zo;have hkc:k<cap:=by omega
    obtain⟨HS,lQ⟩:=aI hS hlen;have BQ:=hS.1.2.2.2;clear hS hQ0 hQf fR hlen;have Hb:=hbz wk;obtain⟨Hr,Hl⟩:=aI HS.out.2.1 HS.out.2.2.1;obtain⟨ae,ai⟩:=qZ (Hr.an<|Hl.an trivial);obtain⟨W3,Dl,aG,ae,ai⟩:=bO wk (Hb.an ae) 3 [af (k:Int)];have kF:=aj (HS.out.1.below ae.2.1.out zo);have eO:W3.cell? ⟨wk.heap.size,0,none⟩=some (af (k:Int)):=ae.1.out.cell 0;go_wp2_with fail;refine aK ae (kF.out.index k wk.heap.size hlt zo eO lQ.out) λw4 ae ai=>?_;cases hp:qN f' n k with
    | none=>
      have hpv:IW f' n k= -1:=by unfold IW;rw[hp]
      have hz:=HS.out.none hlt hp;rw[hpv];have Hbb:=aj (HS.out.1.2.2.1.trans (ae.2.1.out.mono zo));clear HS lQ kF hp;go_wp2;have r0:w4.cell? ⟨w.heap.size,0,none⟩=some (ag false):=ae.2.2.1.out.cell 0;have r1:w4.cell? ⟨w.heap.size,1,none⟩=some (.string ⟨#[]⟩):=ae.2.2.1.out.cell 1;refine bodyPost_ret (v:=.agg #[ag false,.string ⟨#[]⟩]) (by simp[results,Tryz.results201,go_sem,r0,r1]) rfl ⟨by rw[hz];rfl,?_⟩;exact(Hbb.out.setCell zp _).setCell zp _
    | some m=>
      have hpv:IW f' n k=(m:Int):=by unfold IW;rw[hp]
      rw[hpv];obtain⟨ny,_⟩:=mQ hp;obtain⟨g,hg,mD,ot,acj,abR,Q,hQ,GR,iO,acv,ua⟩:=HS.out.some hlt hp;have hl0:=HS.out.2.2.2.2.2.1;have pg:BT w w4 base n go cap w.heap.size f' w.heap.size w1.heap.size wk.heap.size last k:=⟨HS.out.1.below ae.2.1.out zo,ae.2.2.1.out,ae.2.2.2.1.out,ae.1.out,by omega,Nat.le_refl _,by omega,by omega⟩;obtain⟨xw,Hdv,Xj,WV,HQ,XF,Xt,Xv,kL,Hg,Cn,jV⟩:=gL pg ot acj abR hQ GR iO acv ua hg mD hl0;clear pg ot acj abR hQ GR iO acv ua hg mD hl0 hpv hp HS lQ kF;have hm0:¬(m:Int)<0:=by omega
      go_upto_if 27 with fail
      go_cut[5] (λs5 wx=>s5=ag (t !=decide (0<m))/\BT w wx base n go cap w.heap.size g w.heap.size w1.heap.size wk.heap.size last k);case first=>
       by_cases hm:0<m
       . have wE:(0:Int)<(m:Int):=by omega
         obtain⟨g1,c1,g2,c2,e1,e2,e3,hsw⟩:=xw.out.swap k (k+m) hlt zo;rw[<-Hg.out]at hsw;have PL:=aj hsw;have pp:=Ec n cap k (k:Int) (rfl:(some ⟨go,0,none⟩:Option Addr)=_) hlt rfl;have tO:=Ec n cap (k+m) ((k+m:Nat):Int) (rfl:(some ⟨go,0,none⟩:Option Addr)=_) zo rfl;rw[Nat.zero_add,Nat.mul_one]at pp tO;have hwm:IntKind.i64.wrap ((k:Int)+(m:Int))=((k+m:Nat):Int):=by rw[IntKind.wrap_i64];omega
         obtain⟨km,mF⟩:=az (k+m);rw[mF]at e2 tO hwm PL;have pP:=aj xw.out.2.2.2.1;have FA:Hid (aQ w4 go k [.slice (some ⟨g1,0,none⟩) n c1]):=λj hj=>by
          obtain rfl:j=0:=by simp at hj;omega
          exact e1
         have FB:Hid (aQ w4 go km [.slice (some ⟨g2,0,none⟩) n c2]):=λj hj=>by
          obtain rfl:j=0:=by simp at hj;omega
          exact e2
         have z1:w4.drew.frozen? ⟨go,k,none⟩=false:=e3 k;have z2:w4.drew.frozen? ⟨go,km,none⟩=false:=e3 km;have z3:w4.frozen? ⟨go,km,none⟩=false:=e3 km;have y2:(w4.setCell ⟨go,k,none⟩ (.slice (some ⟨g2,0,none⟩) n c2)).cell? ⟨go,km,none⟩=some (.slice (some ⟨g2,0,none⟩) n c2):=aF (.inr zp) e2;have Hkm:=aj mF;clear hsw e1 e2 e3 mF;go_wp2_with fail;obtain⟨ae,ai⟩:=qZ (pP.an<|FA.an<|FB.an trivial);have hgo:go<wk.heap.size:=by have:=xw.out.1.2.1.1;omega
         obtain⟨pP,FA,FB,_⟩:=ae;have eO:=pP.out.c1;have xa0:=FA.out.w1;have xb0:=FB.out.w1;refine axM (λw'=>aJ w' (wk.heap.size) 0 (af (k:Int))) (λi=>Nat.blt i 19) (.rd 0 (.rd 1 (.rd 2 (.rd 3 (.rd 4 (.rd 5 (.rd 6 (.rd 7 (.rd 8 (.rd 9 (.rd 10 (.rd 12 (.rd 13 (.rd 14 (.br 11 15 (.lin [(15,false),(16,true),(17,false),(18,false),(19,false)]) (.lin [(11,false),(16,true),(17,false),(18,false),(19,false)])))))))))))))))) zk zk rfl zk zc eO ?_;iterate 14 (refine auz rfl rfl (v:=?_) (λw' hw'=>?_) ?_;rotate_left;(focus go_simp;try with_reducible rfl))
         refine auy rfl rfl rfl rfl rfl rfl  (λK hK=>?_) (λK hK=>?_) 
         . go_simp;refine hK _ _ (by first|exact λ_=>eO|exact λ_=>gG zg eO) ?_
           refine aft ?_;refine aN rfl rfl (λK hK=>?_);go_simp;refine hK _ _ (by first|exact λh=>absurd h zd|exact λ_=>eO|exact λ_=>gG zg eO) ?_
           refine pT rfl rfl ?_
           refine aN rfl rfl (λK hK=>?_);go_simp;refine hK _ _ (by first|exact λh=>absurd h zd|exact λ_=>eO|exact λ_=>gG zg eO) ?_
           refine aN rfl rfl (λK hK=>?_);go_simp;refine hK _ _ (by first|exact λh=>absurd h zd|exact λ_=>eO|exact λ_=>gG zg eO) ?_
           refine aN rfl rfl (λK hK=>?_);go_simp;refine hK _ _ (by first|exact λh=>absurd h zd|exact λ_=>eO|exact λ_=>gG zg eO) ?_
           simp only[bE];go_wp2_with fail;go_meet;exact⟨by simp[hm],PL.out.drew⟩
         . go_simp;refine hK _ _ (by first|exact λ_=>eO|exact λ_=>gG zg eO) ?_
           refine aft ?_;refine aN rfl rfl (λK hK=>?_);go_simp;refine hK _ _ (by first|exact λh=>absurd h zd|exact λ_=>eO|exact λ_=>gG zg eO) ?_
           refine pT rfl rfl ?_
           refine aN rfl rfl (λK hK=>?_);go_simp;refine hK _ _ (by first|exact λh=>absurd h zd|exact λ_=>eO|exact λ_=>gG zg eO) ?_
           refine aN rfl rfl (λK hK=>?_);go_simp;refine hK _ _ (by first|exact λh=>absurd h zd|exact λ_=>eO|exact λ_=>gG zg eO) ?_
           refine aN rfl rfl (λK hK=>?_);go_simp;refine hK _ _ (by first|exact λh=>absurd h zd|exact λ_=>eO|exact λ_=>gG zg eO) ?_
           simp only[bE];go_wp2_with fail;go_meet;exact⟨by simp[hm],PL.out.drew⟩
       . have hm2:¬(0:Int)<(m:Int):=by omega
         obtain rfl:m=0:=by omega
         go_wp2_with fail;go_meet;refine⟨by simp,?_⟩;rw[Hg.out,aws];exact xw.out
      case rest=>
       obtain⟨rfl,pg⟩:=hcut;have xw:=aj pg;have fR:=sJ.out (k+1) (2*Q+1) zo (by have:=HQ.out;omega);clear pg;have eO:wc.cell? ⟨wk.heap.size,0,none⟩=some (af (k:Int)):=xw.out.2.2.2.1.cell 0;go_wp2_with fail;go_loopw[8] (λx wr=>∃i:Nat,k<i/\i<=n/\x=af (i:Int)/\BT w wr base n go cap w.heap.size (lG g k last i (k+1)) w.heap.size w1.heap.size wk.heap.size last k) (λx _=>n-(intOf x).toNat);case atStart=>exact⟨k+1,by omega,by omega,by go_num,by rw[auo];exact xw.out⟩
       case round=>
        clear eO xw;obtain⟨i,uT,hin,rfl,hT⟩:=hrel;have EP:=aj hT;clear hT;have eO:wr.cell? ⟨wk.heap.size,0,none⟩=some (af (k:Int)):=EP.out.2.2.2.1.cell 0;by_cases bB:i<n
        . obtain⟨wi,qH⟩:∃wi,wi=wr:=⟨_,rfl⟩;subst qH;go_wp2_with fail;go_loopw[9] (λx wr=>∃j:Nat,k<j/\j<=n/\x=af (j:Int)/\BT w wr base n go cap w.heap.size (lG g k last i j) w.heap.size w1.heap.size wk.heap.size last k) (λx _=>n-(intOf x).toNat);case atStart=>exact⟨k+1,by omega,by omega,by go_num,EP.out⟩
          case round=>
           clear eO EP;obtain⟨j,hkj,hjn,rfl,hT⟩:=hrel;by_cases jb:j<n
           . have Cg:=aj hT;clear hT;obtain⟨gi,ci,li,ti,ei,ri,_⟩:=Cg.out.row i bB;obtain⟨gk,ck,lk,tk,ek,rk,_⟩:=Cg.out.row k hlt;obtain⟨p1,p2,p3,p4⟩:=aul g k last i j;obtain⟨aa,KJ⟩:=ri j jb;obtain⟨ab,KL⟩:=rk k hlt;obtain⟨ac,KM⟩:=ri k hlt;obtain⟨ad,KN⟩:=rk j jb;rw[p1]at aa KJ;rw[p2]at ab KL;rw[p3]at ac KM;rw[p4]at ad KN;have iO:=Xt.out;have q1:=iO i j bB jb;have q2:=iO k k hlt hlt;have q3:=iO i k bB hlt;have q4:=iO k j hlt jb;obtain⟨m1,m2,m3⟩:=UA g k i j Q q1 q2 q3 q4;have ot:=Hdv.out i j uT bB hkj jb;have rH:=fun a b=>congrFun (congrFun (aum g k last i j uT hkj) a) b;have hN:g i j*g k k-g i k*g k j=cd g k i j:=rfl;generalize cd g k i j=N at*;obtain⟨x1,hx1⟩:∃x,g i j=x:=⟨_,rfl⟩;obtain⟨x2,hx2⟩:∃x,g k k=x:=⟨_,rfl⟩;obtain⟨x3,hx3⟩:∃x,g i k=x:=⟨_,rfl⟩;obtain⟨x4,hx4⟩:∃x,g k j=x:=⟨_,rfl⟩;rw[hx1]at q1 m1 hN aa KJ;rw[hx2]at q2 m1 hN ab KL;rw[hx3]at q3 m2 hN ac KM;rw[hx4]at q4 m2 hN ad KN;obtain⟨P1,Di⟩:∃x,x1*x2=x:=⟨_,rfl⟩;obtain⟨P2,tu⟩:∃x,x3*x4=x:=⟨_,rfl⟩;rw[Di]at m1 hN;rw[tu]at m2 hN;have L1:(nt x1.natAbs).length<=17179869184:=lA q1 zo;have L2:(nt x2.natAbs).length<=17179869184:=lA q2 zo;have L3:(nt x3.natAbs).length<=17179869184:=lA q3 zo;have L4:(nt x4.natAbs).length<=17179869184:=lA q4 zo;have L5:(nt P1.natAbs).length<=34359738368:=lA m1 zo;have L6:(nt P2.natAbs).length<=34359738368:=lA m2 zo;have L7:(nt N.natAbs).length<=34359738368:=lA m3 zo;have L8:(nt last.natAbs).length<=34359738368:=lA XF.out zo;obtain⟨kG,Wv,EH,Ww,Wx,Wy,Wz,WA,Cb,WF,HN,Oy⟩:=gL L1 L2 L3 L4 L5 L6 L7 L8 Di tu hN ot;have XO:=aj rH;clear L1 L2 L3 L4 L5 L6 L7 L8 Di tu hN ot rH q1 q2 q3 q4 m1 m2 m3 hx1 hx2 hx3 hx4 iO p1 p2 p3 p4 ri rk;have Jr:∀(b o:Nat) (u v:Value),wr.cell? ⟨b,o,none⟩=some u->wr.cell? ⟨b,o+1,none⟩=some v->aQ wr b o [u,v]:=by
              intro b o u v h1 h2 j hj;rcases j with _|_|j
              . exact h1
              . exact h2
              . simp at hj;omega
             have VQ:∀(b o:Nat) (u:Value),wr.cell? ⟨b,o,none⟩=some u->aQ wr b o [u]:=by
              intro b o u h1 j hj;obtain rfl:j=0:=by simp at hj;omega
              exact h1
             obtain⟨pP,rf,sL,qR,kH,EL,rX⟩:=jx Cg.out.2.2.2.1 (VQ _ _ _ ei) (VQ _ _ _ ek) (Jr _ _ _ _ aa KJ) (Jr _ _ _ _ ab KL) (Jr _ _ _ _ ac KM) (Jr _ _ _ _ ad KN);clear VQ Jr ei ek aa KJ ab KL ac KM ad KN;have ixi:=Ec n cap i (i:Int) (rfl:(some ⟨go,0,none⟩:Option Addr)=_) bB rfl;have ixk:=Ec n cap k (k:Int) (rfl:(some ⟨go,0,none⟩:Option Addr)=_) hlt rfl;rw[Nat.zero_add,Nat.mul_one]at ixi ixk;have MR:=wO n ci j (j:Int) (rfl:(some ⟨gi,0,none⟩:Option Addr)=_) jb rfl;have iik:=wO n ci k (k:Int) (rfl:(some ⟨gi,0,none⟩:Option Addr)=_) hlt rfl;have ikj:=wO n ck j (j:Int) (rfl:(some ⟨gk,0,none⟩:Option Addr)=_) jb rfl;have ikk:=wO n ck k (k:Int) (rfl:(some ⟨gk,0,none⟩:Option Addr)=_) hlt rfl;rw[Nat.zero_add]at MR iik ikj ikk;go_upto_region 18 with fail
             go_cut[10] (λJe wx=>∃b:Nat,Je=.pointer (some ⟨b,0,none⟩)/\ar wx b 43 [ag (au N),ah (nt N.natAbs)]/\Bw wr wx);case first=>
              clear Xt HQ XF Xv kL Hg WV Xj XO Oy Cn Cg;obtain⟨w0,hw0⟩:∃w0,w0=w:=⟨_,rfl⟩;subst hw0;obtain⟨w,TQ⟩:∃w,w=wr:=⟨_,rfl⟩;subst TQ;have Hb:=hbz w;obtain⟨ae,ai⟩:=qZ (pP.an<|rf.an<|sL.an<|qR.an<|kH.an<|EL.an<|rX.an trivial);obtain⟨pP,rf,sL,qR,kH,EL,rX,_⟩:=ae;have eO:=pP.out.c1;have vv:=rf.out.w1;have zu:=sL.out.w1;obtain⟨Qr,Qs⟩:=qR.out.w2;obtain⟨xN,xO⟩:=kH.out.w2;obtain⟨ac0,ac1⟩:=EL.out.w2;obtain⟨ad0,ad1⟩:=rX.out.w2;obtain⟨cs,hcs⟩:∃cs:List (Addr×Value),[(⟨wk.heap.size,0,none⟩,af (k:Int)),(⟨go,i,none⟩,.slice (some ⟨gi,0,none⟩) n ci),(⟨go,k,none⟩,.slice (some ⟨gk,0,none⟩) n ck),(⟨gi,j*2,none⟩,ag (au x1)),(⟨gi,j*2+1,none⟩,ah (nt x1.natAbs)),(⟨gk,k*2,none⟩,ag (au x2)),(⟨gk,k*2+1,none⟩,ah (nt x2.natAbs)),(⟨gi,k*2,none⟩,ag (au x3)),(⟨gi,k*2+1,none⟩,ah (nt x3.natAbs)),(⟨gk,j*2,none⟩,ag (au x4)),(⟨gk,j*2+1,none⟩,ah (nt x4.natAbs))]=cs:=⟨_,rfl⟩;have oJ:∀w',jF cs w'->aJ w' (wk.heap.size) 0 (af (k:Int))/\aJ w' go i (.slice (some ⟨gi,0,none⟩) n ci)/\aJ w' go k (.slice (some ⟨gk,0,none⟩) n ck)/\aJ w' gi (j*2) (ag (au x1))/\aJ w' gi (j*2+1) (ah (nt x1.natAbs))/\aJ w' gk (k*2) (ag (au x2))/\aJ w' gk (k*2+1) (ah (nt x2.natAbs))/\aJ w' gi (k*2) (ag (au x3))/\aJ w' gi (k*2+1) (ah (nt x3.natAbs))/\aJ w' gk (j*2) (ag (au x4))/\aJ w' gk (j*2+1) (ah (nt x4.natAbs)):=by subst hcs;intro w' h;exact⟨h.hd,h.tl.hd,h.tl.tl.hd,h.tl.tl.tl.hd,h.tl.tl.tl.tl.hd,h.tl.tl.tl.tl.tl.hd,h.tl.tl.tl.tl.tl.tl.hd,h.tl.tl.tl.tl.tl.tl.tl.hd,h.tl.tl.tl.tl.tl.tl.tl.tl.hd,h.tl.tl.tl.tl.tl.tl.tl.tl.tl.hd,h.tl.tl.tl.tl.tl.tl.tl.tl.tl.tl.hd⟩
              have lL:Hid (jF cs w):=by subst hcs;show jF _ _;intro p hp;simp only[List.mem_cons,List.not_mem_nil,or_false]at hp;rcases hp with rfl|rfl|rfl|rfl|rfl|rfl|rfl|rfl|rfl|rfl|rfl<;>assumption
              refine axL (λw'=>jF cs w') (λi=>Nat.blt i 34) [14,15,30,31,32,33] (λk=>if k=15 then[14]else if k=31 then[15,30]else if k=32 then[15,31]else[]) [(34,false)] [0,1,2,3,4,5,6,7,8,9,10,11,12,13,16,17,18,19,20,21,22,23,24,25,26,27,28,29] zk zk rfl zk zc lL.out.drew ?_;iterate 28 (refine auw rfl rfl (v:=?_) (λw' hw'=>?_) ?_;rotate_left;(focus have hw':=oJ w' hw';obtain⟨q0,q1,q2,q3,q4,q5,q6,q7,q8,q9,q10⟩:=hw';go_simp;try with_reducible rfl))
              clear eO vv zu Qr Qs xN xO ac0 ac1 ad0 ad1 pP rf sL qR kH EL rX oJ hcs;refine auv (λa0=>KG a0 w cs x1 x2 x3 x4 P1 P2 N) (KG.init _ _ _ _ _ _ _ _ _ _ _ lL.out.drew (Below.refl _ _).drew) ?_ ?_ ?_
              . rintro dn a' w' ⟨_,_,_,_,_,_,_,h,_⟩;exact h
              . intro k0 fG dn a' w' _ hD hI;obtain⟨v1,v2,v3,v4,v5,v6,rfl,wh,vX,f1,f2,f3,f4,f5,f6⟩:=hI;simp only[List.mem_cons,List.not_mem_nil,or_false]at fG;rcases fG with rfl|rfl|rfl|rfl|rfl|rfl
                . have De:=wh.alloc (.cells #[ag (au x1),ah (nt x1.natAbs),ag (au x2),ah (nt x2.natAbs)] 43);have hal:=(Below.refl w'.heap.size w').alloc (Nat.le_refl _) (.cells #[ag (au x1),ah (nt x1.natAbs),ag (au x2),ah (nt x2.natAbs)] 43);refine En rfl rfl (λK hK=>?_);clear f1;simp only[Act.put,U1,U2,U3];go_simp;refine hK _ _ ⟨.slice (some ⟨w'.heap.size,0,none⟩) 2 2,v2,v3,v4,v5,v6,by simp only[Act.put,U1,U2,U3],De,aC vX hal,λ_=>⟨_,rfl,ar.new _ _ _⟩,λh=>f2 (by simpa using h),λh=>?_,λh=>f4 (by simpa using h),λh=>f5 (by simpa using h),λh=>?_⟩
                  . obtain⟨b,e,q⟩:=f3 (by simpa using h);exact⟨b,e,q.below hal⟩
                  . obtain⟨b,e,hb,q⟩:=f6 (by simpa using h);exact⟨b,e,hb,q.below hal⟩
                . obtain⟨b,rfl,q⟩:=f1 (hD 14 zm);refine En rfl rfl (λK hK=>?_);clear f1;simp only[Act.put,U1,U2,U3];go_simp;with_reducible refine(agJ x1 x2 P1 Cb.out b 2 _ _ kG.out Wv.out q).mono ?_
                  rintro e w2 ⟨rfl,hq⟩;refine hK _ _ ⟨_,cP P1,v3,v4,v5,v6,by simp only[Act.put,U1,U2,U3],wh.below hq,aC vX hq,λ_=>⟨b,rfl,q.below hq⟩,λ_=>rfl,λh=>?_,λh=>f4 (by simpa using h),λh=>f5 (by simpa using h),λh=>?_⟩
                  . obtain⟨b,e,q⟩:=f3 (by simpa using h);exact⟨b,e,q.below hq⟩
                  . obtain⟨b,e,hb,q⟩:=f6 (by simpa using h);exact⟨b,e,hb,q.below hq⟩
                . have De:=wh.alloc (.cells #[ag (au x3),ah (nt x3.natAbs),ag (au x4),ah (nt x4.natAbs)] 43);have hal:=(Below.refl w'.heap.size w').alloc (Nat.le_refl _) (.cells #[ag (au x3),ah (nt x3.natAbs),ag (au x4),ah (nt x4.natAbs)] 43);refine En rfl rfl (λK hK=>?_);clear f3;simp only[Act.put,U1,U2,U3];go_simp;refine hK _ _ ⟨v1,v2,.slice (some ⟨w'.heap.size,0,none⟩) 2 2,v4,v5,v6,by simp only[Act.put,U1,U2,U3],De,aC vX hal,λh=>?_,λh=>f2 (by simpa using h),λ_=>⟨_,rfl,ar.new _ _ _⟩,λh=>f4 (by simpa using h),λh=>f5 (by simpa using h),λh=>?_⟩
                  . obtain⟨b,e,q⟩:=f1 (by simpa using h);exact⟨b,e,q.below hal⟩
                  . obtain⟨b,e,hb,q⟩:=f6 (by simpa using h);exact⟨b,e,hb,q.below hal⟩
                . obtain⟨b,rfl,q⟩:=f3 (hD 30 zm);obtain rfl:=f2 (hD 15 zm);refine En rfl rfl (λK hK=>?_);clear f3;simp only[Act.put,U1,U2,U3];go_simp;with_reducible refine(agJ x3 x4 P2 WF.out b 2 _ _ EH.out Ww.out q).mono ?_
                  rintro e w2 ⟨rfl,hq⟩;refine hK _ _ ⟨v1,cP P1,.slice (some ⟨b,0,none⟩) 2 2,cP P2,v5,v6,by simp only[Act.put,U1,U2,U3],wh.below hq,aC vX hq,λh=>?_,λ_=>rfl,λ_=>⟨b,rfl,q.below hq⟩,λ_=>rfl,λh=>f5 (by simpa using h),λh=>?_⟩
                  . obtain⟨b,e,q⟩:=f1 (by simpa using h);exact⟨b,e,q.below hq⟩
                  . obtain⟨b,e,hb,q⟩:=f6 (by simpa using h);exact⟨b,e,hb,q.below hq⟩
                . obtain rfl:=f2 (hD 15 zm);obtain rfl:=f4 (hD 31 zm);refine En rfl rfl (λK hK=>?_);clear f2 f4;simp only[Act.put,U1,U2,U3];go_simp;with_reducible refine(axp P1 P2 N HN.out _ Wx.out Wy.out).mono ?_
                  rintro e w2 ⟨rfl,hq⟩;refine hK _ _ ⟨v1,_,v3,_,cP N,v6,by simp only[Act.put,U1,U2,U3],wh.below hq,aC vX hq,λh=>?_,λ_=>rfl,λh=>?_,λ_=>rfl,λ_=>rfl,λh=>?_⟩
                  . obtain⟨b,e,q⟩:=f1 (by simpa using h);exact⟨b,e,q.below hq⟩
                  . obtain⟨b,e,q⟩:=f3 (by simpa using h);exact⟨b,e,q.below hq⟩
                  . obtain⟨b,e,hb,q⟩:=f6 (by simpa using h);exact⟨b,e,hb,q.below hq⟩
                . have De:=wh.alloc (.cells #[ag false,.string ⟨#[]⟩] 43);have hal:=(Below.refl w'.heap.size w').alloc (Nat.le_refl _) (.cells #[ag false,.string ⟨#[]⟩] 43);refine En rfl rfl (λK hK=>?_);clear f6;simp only[Act.put,U1,U2,U3];go_simp;refine hK _ _ ⟨v1,v2,v3,v4,v5,.pointer (some ⟨w'.heap.size,0,none⟩),by simp only[Act.put,U1,U2,U3],De,aC vX hal,λh=>?_,λh=>f2 (by simpa using h),λh=>?_,λh=>f4 (by simpa using h),λh=>f5 (by simpa using h),λ_=>⟨_,rfl,vX.size,ar.new _ _ _⟩⟩
                  . obtain⟨b,e,q⟩:=f1 (by simpa using h);exact⟨b,e,q.below hal⟩
                  . obtain⟨b,e,q⟩:=f3 (by simpa using h);exact⟨b,e,q.below hal⟩
              . intro dn a' w' hall hI;obtain⟨v1,v2,v3,v4,v5,v6,rfl,wh,vX,f1,f2,f3,f4,f5,f6⟩:=hI;obtain rfl:=f5 (hall 32 zm);obtain⟨b,rfl,hb,q⟩:=f6 (hall 33 zm);obtain⟨xb,ayQ,xd,ayR⟩:=q.g2;have hQ9:=(q.set 0 (ag (au N))).set 1 (ah (nt N.natAbs));have hB9:=(vX.sc b 0 hb (ag (au N))).sc b 1 hb (ah (nt N.natAbs));clear f1 f2 f3 f4 f5 f6;refine aN rfl rfl (λK hK=>?_);simp only[Act.put,U1,U2,U3];go_simp;refine hK _ _ (λh=>absurd h zd) ?_;simp only[bE];go_wp2_with fail;go_meet;exact⟨b,rfl,hQ9,hB9⟩
             case rest=>
              obtain⟨bx,rfl,qx,qb⟩:=hcut;obtain⟨zG,zV⟩:=aI (Cg.out.below qb) qx;clear qx qb Cg pP rf sL qR kH EL rX ixk iik ikj ikk MR kG Wv EH Ww Wx Wy Cb WF HN li lk ti tk;obtain⟨g9,c9,lt9,lu9,e9,r9,f9⟩:=zG.out.aBF i bB;have ne9:=zG.out.1.row_ne i bB e9;have nx9:bx≠g9:=by rintro rfl;have h1:=(r9 1 zo).1;rw[zV.out.cell]at h1;simp at h1
              obtain⟨Va,Vb⟩:=r9 j jb;obtain⟨y,hy⟩:=az (lG g k last i j i j);rw[hy]at Va Vb;have rf:Hid (aQ wc go i [.slice (some ⟨g9,0,none⟩) n c9]):=λj hj=>by
               obtain rfl:j=0:=by simp at hj;omega
               exact e9
              have qR:Hid (aQ wc g9 (j*2) [ag (au y),ah (nt y.natAbs)]):=λj' hj=>by
               rcases j' with _|_|j'
               . exact Va
               . exact Vb
               . simp at hj;omega
              have Hl:=aj zG.out.2.2.1;have MR:=wO n c9 j (j:Int) (rfl:(some ⟨g9,0,none⟩:Option Addr)=_) jb rfl;rw[Nat.zero_add]at MR;obtain⟨Dv,RB⟩:=az (N/last);have hdc:Cl 250 #[.agg #[ag (au N),ah (nt N.natAbs)],.agg #[ag (au last),ah (nt last.natAbs)]] wc.drew λe w'=>∃r,e=.returned (.tuple #[cP Dv,r,ag true])/\(w'.frozen? ⟨g9,j*2,none⟩=false/\w'.frozen? ⟨g9,j*2+1,none⟩=false)/\Below wc.drew.heap.size wc.drew w':=
               (axk N last wc.drew Wz.out WA.out jV.out Oy.out).mono (λe w' ⟨r,he,hb⟩=>⟨r,by rw[he,RB],⟨(f9 w' (cS hb)).1 _,(f9 w' (cS hb)).1 _⟩,hb⟩)
              obtain⟨OE,Hdc,NQ⟩:=bL f9 hdc RB;clear Va Vb hy e9 r9 f9 hdc RB Wz WA Oy;have Hb:=hbz wc;go_wp2_with fail;obtain⟨ae,ai⟩:=qZ (rf.an<|qR.an<|zV.an<|Hl.an trivial);obtain⟨rf,qR,zV,Hl,_⟩:=ae;have vv:=rf.out.w1;obtain⟨Qr,Qs⟩:=qR.out.w2;obtain⟨xb,xd⟩:=zV.out.c2;obtain⟨l0,l1⟩:=Hl.out.c2;refine fx (λw'=>aJ w' go i (.slice (some ⟨g9,0,none⟩) n c9)/\aJ w' bx 0 (ag (au N))/\aJ w' bx 1 (ah (nt N.natAbs))/\aJ w' (w1.heap.size) 0 (ag (au last))/\aJ w' (w1.heap.size) 1 (ah (nt last.natAbs))) (λi=>Nat.blt i 100000) [(0,true),(1,true),(2,true),(3,true),(4,true),(5,true),(6,true),(7,false),(8,true),(9,true),(10,true),(11,true),(12,true),(13,false)] zk zk rfl zk zc ⟨vv,xb,xd,l0,l1⟩ ?_;iterate 7 (refine pT rfl rfl ?_ (by intro w' ⟨q0,q1,q2,q3,q4⟩;go_simp;try with_reducible rfl))
              refine aN rfl rfl (λK hK=>?_);go_simp;with_reducible refine(Hdc.out).mono ?_
              rintro e w5 ⟨rr,rfl,⟨z0,z1⟩,hq⟩;have ak:Bw wc w5:=by first|exact hq|exact cS hq
              replace rf:=kW rf ak;replace qR:=kW qR ak;replace zV:=kB zV ak;replace Hl:=kB Hl ak;have vv:=rf.out.w1;obtain⟨Qr,Qs⟩:=qR.out.w2;obtain⟨xb,xd⟩:=zV.out.c2;obtain⟨l0,l1⟩:=Hl.out.c2;replace Hb:=bg Hb ak;refine hK _ _ (λ_=>⟨vv,xb,xd,l0,l1⟩) ?_
              iterate 5 (refine pT rfl rfl ?_)
              refine aN rfl rfl (λK hK=>?_);go_simp;refine hK _ _ (by first|exact λh=>absurd h zd|exact λ_=>⟨vv,xb,xd,l0,l1⟩ |exact λ_=>⟨(by first|exact vv|exact aF zf vv|exact aF zf (aF zf vv) |exact aF zf (aF zf (aF zf vv))),(by first|exact xb|exact aF zf xb|exact aF zf (aF zf xb) |exact aF zf (aF zf (aF zf xb))),(by first|exact xd|exact aF zf xd|exact aF zf (aF zf xd) |exact aF zf (aF zf (aF zf xd))),(by first|exact l0|exact aF zf l0|exact aF zf (aF zf l0) |exact aF zf (aF zf (aF zf l0))),(by first|exact l1|exact aF zf l1|exact aF zf (aF zf l1) |exact aF zf (aF zf (aF zf l1)))⟩) ?_
              simp only[bE];go_wp2;go_roundw;case rel=>have h9:=(OE.out w5 Hb.out).2 j jb Dv;rw[<-NQ.out]at h9;exact⟨j+1,by omega,by omega,by go_num,by rw[NQ.out]at h9;exact h9.congr (λa b _ _=>by rw[<-NQ.out];exact XO.out a b)⟩
              case measure=>exact bf
           . obtain rfl:j=n:=by omega
             have HT:=aj hT;clear hT;go_wp2;go_roundw;case rel=>exact⟨i+1,by omega,by omega,by go_num,HT.out.congr (λa b _ hb=>aun g k last i j a b hb)⟩
             case measure=>exact bf
        . obtain rfl:i=n:=by omega
          have hT:=EP.out.congr (λa b ha _=>auk g k last i a b ha);obtain⟨gk,ck,lk,tk,ek,rk,_⟩:=hT.row k hlt;have e1:dH g k last k k=g k k:=by unfold dH;rw[if_neg zo]
          obtain⟨Ls,Lt⟩:=rk k hlt;rw[e1]at Ls Lt;obtain⟨x,hx⟩:=az (g k k);have mD:=Cn.out;have hg2:=Xv.out;have Hn:Hid (∃Q,Q+1<=2^(k+1) * (K+1)/\x.natAbs<2^Q/\∀a b,a<i->b<i->(dH g k last a b).natAbs<2^Q):=⟨2*Q+1,by have:=HQ.out;omega,by rw[<-hx];exact hg2,kL.out⟩;have OA:=Xj.out;have Oe:=WV.out;rw[hx]at Ls Lt mD OA Oe;obtain⟨HE2,HBA⟩:=aI OA Oe;have hLK:w1.heap.size<wk.heap.size:=by have:=zo;omega
          obtain⟨Ff,Hl⟩:=aI (hT.setLast x zo zo) hT.2.2.1;have acH:=Ec i cap k (k:Int) (rfl:(some ⟨go,0,none⟩:Option Addr)=_) hlt rfl;have aqF:=wO i ck k (k:Int) (rfl:(some ⟨gk,0,none⟩:Option Addr)=_) hlt rfl;rw[Nat.zero_add]at acH aqF;rw[Nat.mul_one]at acH;have pP:=aj hT.2.2.2.1;have sL:Hid (aQ wr go k [.slice (some ⟨gk,0,none⟩) i ck]):=λj hj=>by
           obtain rfl:j=0:=by simp at hj;omega
           exact ek
          have kH:Hid (aQ wr gk (k*2) [ag (au x),ah (nt x.natAbs)]):=λj hj=>by
           rcases j with _|_|j
           . exact Ls
           . exact Lt
           . simp at hj;omega
          have Hhx:=aj hx;clear hT rk ek Ls Lt e1 hg2 OA Oe eO hx EP;go_wp2_with fail;obtain⟨ae,ai⟩:=qZ (pP.an<|sL.an<|kH.an<|Hl.an trivial);obtain⟨pP,sL,kH,Hl,_⟩:=ae;have eO:=pP.out.c1;have zu:=sL.out.w1;obtain⟨xN,xO⟩:=kH.out.w2;obtain⟨l0,fl0,l1,fl1⟩:=Hl.out.g2;refine fx (λw'=>aJ w' (wk.heap.size) 0 (af (k:Int))/\aJ w' go k (.slice (some ⟨gk,0,none⟩) i ck)/\aJ w' gk (k*2) (ag (au x))/\aJ w' gk (k*2+1) (ah (nt x.natAbs))) (λi=>Nat.blt i 7) [(0,true),(1,true),(2,true),(3,true),(4,true),(5,true),(6,true),(7,false)] zk zk rfl zk zc ⟨eO,zu,xN,xO⟩ ?_;iterate 7 (refine pT rfl rfl ?_ (by intro w' ⟨q0,q1,q2,q3⟩;go_simp;try with_reducible rfl))
          refine aN rfl rfl (λK hK=>?_);go_simp;refine hK _ _ (by first|exact λh=>absurd h zd|exact λ_=>⟨eO,zu,xN,xO⟩ |exact λ_=>⟨(by first|exact eO|exact aF zf eO|exact aF zf (aF zf eO) |exact aF zf (aF zf (aF zf eO))),(by first|exact zu|exact aF zf zu|exact aF zf (aF zf zu) |exact aF zf (aF zf (aF zf zu))),(by first|exact xN|exact aF zf xN|exact aF zf (aF zf xN) |exact aF zf (aF zf (aF zf xN))),(by first|exact xO|exact aF zf xO|exact aF zf (aF zf xO) |exact aF zf (aF zf (aF zf xO)))⟩) ?_
          simp only[bE];go_wp2;go_roundw;case rel=>exact⟨k+1,dH g k last,x,_,by omega,by go_num,rfl,Bs.next Ff.out.drew (λ_ _ _ _=>rfl) mD HE2.out HBA.out Hn.out⟩
          case measure=>exact bf
  . obtain rfl:k=n:=by omega
    obtain⟨q1,q2,q3,_,q5,_,Q,hQ,GR,_⟩:=hS;have fR:=sJ.out k Q (Nat.le_refl _) hQ;have hll:(nt last.natAbs).length<=1099511627776:=lA GR zo;rw[Nat.sub_self]at q5;unfold eX at q5;obtain⟨Hr,Hl,Hq,HZ,Kb⟩:=dY q2 q3 q1 q5 hll;clear q1 q2 q3 q5 hQ GR hll fR;have Hb:=hbz wk;obtain⟨ae,ai⟩:=qZ (Hr.an<|Hl.an trivial);have Dr:=Hq.out.2.2.1;cases t with
    | false=>
      have Hz:Hid (last=Z):=by have hz:=HZ.out;simp only[Bool.false_eq_true,if_false]at hz;exact hz
      go_wp2;have r0:wk.cell? ⟨w.heap.size,0,none⟩=some (ag false):=ae.1.out.cell 0;have r1:wk.cell? ⟨w.heap.size,1,none⟩=some (.string ⟨#[]⟩):=ae.1.out.cell 1;refine bodyPost_ret (v:=.agg #[ag (au last),ah (nt last.natAbs)]) (by simp[results,Tryz.results201,go_sem,r0,r1]) rfl ⟨by rw[Hz.out],?_⟩;exact(Dr.setCell zp _).setCell zp _
    | true=>
      have Hz:Hid (-last=Z):=by have hz:=HZ.out;simp only[if_true]at hz;exact hz
      have hneg:∀W,Cv 214 #[.agg #[ag (au last),ah (nt last.natAbs)]] W (cP (-last)):=λW=>by have:=agL (au last) (nt last.natAbs) W Kb.out;rw[fu]at this;exact this
      go_wp2_with fail;refine aK (Hb.an ae) (hneg _) λw4 ae ai=>?_;clear hneg;go_wp2;have r0:w4.cell? ⟨w.heap.size,0,none⟩=some (ag false):=ae.2.1.out.cell 0;have r1:w4.cell? ⟨w.heap.size,1,none⟩=some (.string ⟨#[]⟩):=ae.2.1.out.cell 1;refine bodyPost_ret (v:=.agg #[ag (au (-last)),ah (nt (-last).natAbs)]) (by simp[results,Tryz.results201,go_sem,r0,r1]) rfl ⟨by rw[Hz.out],?_⟩;exact((Dr.trans (ae.1.out.mono (by have:=Hq.out.2.2.2;omega))).setCell zp _).setCell zp _
def alH (n l k:Nat)(f:Nat->Nat->Int)(last:Int)(t:Bool)(Q:Nat)(hk:k+l=n)(hl:last.natAbs<2^Q)(hf:∀a b,a<n->b<n->(f a b).natAbs<2^Q)(hex:gH n l k f last):(eX n l k f last t).natAbs<2^(2^l* (Q+1)):=by
 induction l generalizing k f last t Q with
 | zero=>
   unfold eX;have h1:2^Q<=2^(2^0* (Q+1)):=Nat.pow_le_pow_right zd zm;split
   . rw[Int.natAbs_neg];omega
   . omega
 | succ l ih=>
   unfold eX;unfold gH at hex;cases hp:qN f n k with
   |none=>exact Nat.pow_pos zd
   | some m=>
     rw[hp]at hex;simp only at hex⊢;have Bc:=mQ hp;obtain⟨g,hg⟩:∃g,g=bV f k (k+m):=⟨_,rfl⟩;rw[<-hg]at hex⊢;have hkn:k<n:=by omega
     have iO:∀a b,a<n->b<n->(g a b).natAbs<2^Q:=by
      intro a b ha hb;rw[hg];unfold bV;refine hf _ _ ?_ hb;split
      . omega
      . split
        . omega
        . exact ha
     have Gt:2^Q<=2^(2*Q+1):=Nat.pow_le_pow_right zd zo;have e:2^(l+1) * (Q+1)=2^l* (2*Q+1+1):=by rw[Nat.pow_succ,Nat.mul_assoc];congr 1
     rw[e];refine ih (k+1) _ _ _ (2*Q+1) zo (Nat.lt_of_lt_of_le (iO k k hkn hkn) Gt) (λa b ha hb=>?_) hex.2;unfold dH;split
     . rename_i h4
       have h5:=(UA g k a b Q (iO a b ha hb) (iO k k hkn hkn) (iO a k ha hkn) (iO k b hkn hb)).2.2;rcases div_lt _ last _ h5 with h6|h6
       . exact h6
       . exact absurd (hex.1 a b h4.1 ha h4.2 hb) h6
     . exact Nat.lt_of_lt_of_le (iO a b ha hb) Gt
def cu (D:List (List Dyadic))(i j:Nat):Dyadic:=(D.getD i []).getD j 0
def awE (D:List (List Dyadic))(n:Nat)(g:Dyadic->Int)(hl:D.length=n)(hr:∀r∈D,r.length=n):(D.map λr=>r.map g)=eT (λi j=>g (cu D i j)) n:=by
 apply List.ext_getElem
 . simp[eT,hl]
 . intro i h1 h2;have hi:i<D.length:=by simpa using h1
   have hri:=hr _ (List.getElem_mem hi);apply List.ext_getElem
   . simp[eT,hri]
   . intro j h3 h4;have hj:j<D[i].length:=by simpa using h3
     simp[eT,cu,List.getD_eq_getElem?_getD,hi,hj]
def aaa {D:List (List Dyadic)}{n i j:Nat}(hl:D.length=n)(hr:∀r∈D,r.length=n)(hi:i<n)(hj:j<n):∃r∈D,cu D i j∈r:=by
 have h1:i<D.length:=by omega
 have h2:j<D[i].length:=by rw[hr _ (List.getElem_mem h1)];exact hj
 refine⟨D[i],List.getElem_mem h1,?_⟩;have:cu D i j=D[i][j]:=by simp[cu,List.getD_eq_getElem?_getD,h1,h2]
 rw[this];exact List.getElem_mem h2
def QR (a:Option Addr)(cap n:Nat)(rows:List (List Raw))(B:Nat)(D:List (List Dyadic))(X:Dyadic)(w:World)(hn:1<=n)(aZ:n<=4)(hL:rows.length=n)(hrow:∀r∈rows,r.length=n)(ha:Tbl w a rows)
 (hfit:∀r∈rows,∀c∈r,Fit B c) (bQ:1<=B) (hB:B<=1000000) (hT:aB w) (hD:(rows.map λr=>r.map dval)=D) (hX:dK n (cu D)=X):
 Cv 116 #[.slice a n cap] w (.tuple #[bN X,af 0]):=by
 obtain⟨low,kq⟩:=az (nI 0 D);have hDl:D.length=n:=by rw[<-hD];simp[hL]
 have LK:∀r∈D,r.length=n:=by intro r hr;rw[<-hD]at hr;obtain⟨x,hx,rfl⟩:=List.mem_map.1 hr;simpa using hrow x hx
 have kY:∀r∈D,∀d∈r,Sm B d:=by intro r hr d hd;rw[<-hD]at hr;obtain⟨x,hx,rfl⟩:=List.mem_map.1 hr;obtain⟨y,hy,rfl⟩:=List.mem_map.1 hd;exact(hfit x hx y hy).2
 have hlo:=Um 0 D;rw[kq]at hlo;have hlb: -(B:Int)<=low:=by rw[<-kq];exact Ul 0 D _ zo (λr hr d hd=>(kY r hr d hd).parts.2.1)
 obtain⟨f,hf⟩:∃f:Nat->Nat->Int,f=λi j=>rR low (cu D i j):=⟨_,rfl⟩;have yC:(D.map λr=>r.map (rR low))=eT f n:=by rw[hf];exact awE D n (rR low) hDl LK
 have hK:∀a b,a<n->b<n->(f a b).natAbs<2^(4*B):=by
  intro i j hi hj;obtain⟨r,hr,hm⟩:=aaa hDl LK hi hj;obtain⟨s1,s2,s3⟩:=(kY r hr _ hm).parts;rw[hf];show(rR low (cu D i j)).natAbs<_
  unfold rR;rw[Int.natAbs_mul,Int.natAbs_pow,show 4*B=2*B+2*B by omega,Nat.pow_add];exact Nat.lt_of_lt_of_le (Nat.mul_lt_mul_of_pos_right s1 (Nat.pow_pos zd)) (Nat.mul_le_mul_left _ (Nat.pow_le_pow_right zd zo))
 have hent:∀i j,i<n->j<n->cu D i j=Dyadic.ofIntWithPrec (f i j) (-low):=by intro i j hi hj;obtain⟨r,hr,hm⟩:=aaa hDl LK hi hj;rw[hf];exact(avQ low _ (hlo.2 r hr _ hm)).symm
 have pk:=anQ n hn aZ f (cu D) (-low) hent;have hex:=aad n hn aZ f;have hzl:=alH n n 0 f 1 false (4*B) zo (Nat.one_lt_two_pow zo) hK hex;obtain⟨z,hz⟩:=az (eX n n 0 f 1 false);rw[hz]at hzl pk;have TZ:(nt z.natAbs).length<=34359738368:=by refine lA hzl ?_;have:2^n<=2^4:=Nat.pow_le_pow_right zd aZ;have:=Nat.mul_le_mul_right (4*B+1) this;omega
 obtain⟨e,he⟩:∃e:Int,low*n=e:=⟨_,rfl⟩;have heb: -4000000<=e/\e<=4000000:=by
  have hl0:=hlo.1;have hc:n=1\/n=2\/n=3\/n=4:=by omega
  rcases hc with rfl|rfl|rfl|rfl<;>omega
 have ot:dval (au z,nt z.natAbs,e)=X:=by
  rw[<-hX,pk];show Dyadic.ofIntWithPrec (iv (au z) (nt z.natAbs)) (-e)=_
  rw[fu,<-he];congr 1;rw[Int.mul_comm,Int.mul_neg]
 obtain⟨nl,hnl⟩:=az (-low);have hw1:IntKind.i64.wrap (-nl)=low:=by rw[IntKind.wrap_i64];have:=hlo.1;omega
 have hw2:IntKind.i64.wrap (low* (n:Int))=e:=by rw[he,IntKind.wrap_i64];omega
 have hm0:wV rows=0:=by
  unfold wV;rw[if_neg];rintro(h|h)
  . omega
  . rw[List.any_eq_true]at h;obtain⟨r,hr,h⟩:=h;have:=hrow r hr;simp at h;omega
 have hch:=λW=>λ(h:Tbl W a rows)=>Uq a n cap rows W hL zo h;rw[hm0]at hch;have hsc:=λW=>λ(h:Tbl W a rows) (hT:aB W)=>afV a n cap n rows B low W hL zo zo hrow h hfit zo hT (by rw[hD];exact kq);rw[hD,yC,hnl]at hsc;have hbr:=λv W base=>λ(h:jp W base n (eT f n) n v) (h2:base<=W.heap.size)=>alK base n (4*B) f v W hn aZ h h2 zo hK zo;rw[hz]at hbr;have hmk:=λW=>λ(hT:aB W)=>yN (au z) (nt z.natAbs) e X ot W TZ zo hT;obtain⟨Oo,lT,zH,oN,Ha,HT⟩:=gM hch hsc hbr hmk ha hT;clear hch hsc hbr hmk ha hT hm0 ot heb he TZ hz hzl hex pk hent hK yC hf hlb hlo kY LK hDl kq hD hX hfit hrow hL hnl;have Hb:=hbz w;go_enter Tryz.func116,Tryz.ntmps116;go_wp2_with fail;refine cX w (Hb.an trivial) 45 [ag false,.string ⟨#[]⟩,af 0] λW aG ae ai=>?_;have HA:Hid (Tbl W a rows):=Ha.out.below ae.2.1.out;have HU:Hid (aB W):=HT.out.below ae.2.1.out;go_wp2_with fail;refine aK (HA.an<|HU.an ae) (Oo.out _ HA.out) λw1 ae ai=>?_;go_wp2_with fail;refine(lT.out _ ae.1.out ae.2.1.out).mono ?_;rintro e' w2 ⟨v,rfl,hO,hb2⟩;have HO:=aj hO;have BQ:=hb2.size;clear hO;go_wp2_with fail;refine(zH.out v w2 w1.heap.size HO.out BQ).mono ?_;rintro e' w3 ⟨rfl,hb3⟩;have hb4:=hb2.trans hb3;clear hb2 hb3 HO;obtain⟨ae,ai⟩:=qX hb4 ae;skip
 clear hb4;go_wp2_with fail;refine aK ae (oN.out _ ae.2.1.out) λw4 ae ai=>?_;go_wp2;refine dG (aO w4 (w.heap.size) 0 (bu X)) aR ?_;intro w9 hs0;have ae:=bD hs0 ae;simp only[bz,List.set]at ae;have ai:=qC ae;refine bodyPost_ret (v:=.tuple #[bN X,af 0]) (by simp[results,Tryz.results116,go_sem,ai]) rfl ⟨rfl,ae.2.2.2.1.out⟩
end Go.Proofs.YtpfgffadgkkedaaGreatDoor
namespace Go.Proofs.YtpfgffadgkkedaaGreatDoor
open Go.RowKit
def Nn {V:Int}{ts:List Trm}(h:gj V ts=0):0<=V/\V<=12/\ts.length<=4096/\∀t∈ts,(t.1.length:Int)=V/\∀c∈t.1,c.toNat<=127:=by
 unfold gj at h;by_cases h1:0<=V/\V<=12
 . rw[if_neg (λh=>h h1)]at h;by_cases h2:4096<ts.length
   . rw[if_pos h2]at h;cases h
   . rw[if_neg h2]at h;by_cases h3:(List.range ts.length).all (mZ V ts)=true
     . refine⟨h1.1,h1.2,by omega,λt ht=>?_⟩;obtain⟨k,hk,rfl⟩:=List.mem_iff_getElem.1 ht;rw[List.all_eq_true]at h3;have h4:=h3 k (List.mem_range.2 hk);have e:ts.getD k default=ts[k]:=by simp[List.getD_eq_getElem?_getD,hk]
       unfold mZ xW at h4;rw[e]at h4;simp only[Bool.and_eq_true]at h4;have h5:=h4.1.1.1;unfold cJ at h5;rw[Bool.and_eq_true,List.all_eq_true]at h5;exact⟨of_decide_eq_true h5.2,λc hc=>of_decide_eq_true (h5.1 c hc)⟩
     . rw[if_neg h3]at h;cases h
 . rw[if_pos h1]at h;cases h
def aw9 (ts:List Trm)(h:∀k (h:k+1<ts.length),Op.bytesLess (ts[k]'zo).1 ts[k+1].1=true):Up ts:=by
 unfold Up;rw[List.pairwise_iff_getElem];intro i j hi hj hij;obtain⟨d,rfl⟩:∃d,j=i+1+d:=⟨j-(i+1),by omega⟩;induction d with
 |zero=>exact h i hj
 |succ d ih=>exact FP (ih zo zo) (h (i+1+d) hj)
def Er {V:Nat}{ts:List Trm}(h:gj (V:Int) ts=0):FJ V ts:=by
 obtain⟨h1,h2,h3,h4⟩:=Nn h;have hall:(List.range ts.length).all (mZ (V:Int) ts)=true:=by
  unfold gj at h;rw[if_neg zo,if_neg zo]at h;by_cases h9:(List.range ts.length).all (mZ (V:Int) ts)=true
  . exact h9
  . rw[if_neg h9]at h;cases h
 rw[List.all_eq_true]at hall;have hg:∀k (hk:k<ts.length),xW (V:Int) ts[k].1 ts[k].2=true/\(0<k->Op.bytesLess (ts[k-1]'zo).1 ts[k].1=true):=λk hk=>by
  have h5:=hall k (List.mem_range.2 hk);unfold mZ at h5;rw[show ts.getD k default=ts[k]by simp[List.getD_eq_getElem?_getD,hk],show ts.getD (k-1) default=ts[k-1]'zo by simp[List.getD_eq_getElem?_getD,show k-1<ts.length by omega]]at h5;simp only[Bool.and_eq_true,Bool.or_eq_true,beq_iff_eq,fY]at h5;refine⟨h5.1,λh0=>?_⟩;rcases h5.2 with h6|h6
  . omega
  . exact h6
 refine⟨⟨aw9 ts (λk hk=>by have:=(hg (k+1) hk).2 zo;simpa using this),λt ht=>?_⟩,λt ht=>?_,h3,by omega⟩;all_goals
  obtain⟨k,hk,rfl⟩:=List.mem_iff_getElem.1 ht
  have h5:=(hg k hk).1
  unfold xW at h5
  simp only[Bool.and_eq_true,Bool.not_eq_true',beq_iff_eq]at h5
 . exact⟨(xS _).1 h5.1.2,h5.2.symm⟩
 . exact h5.1.1
end Go.Proofs.YtpfgffadgkkedaaGreatDoor
