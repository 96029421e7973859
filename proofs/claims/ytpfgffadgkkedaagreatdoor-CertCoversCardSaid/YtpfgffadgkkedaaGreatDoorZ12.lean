/- Polynomials that may be;how great their numbers are;those that are a number,and one for each variable. Plain. -/
import Derived.Test.YtpfgffadgkkedaaGreatDoorZ11
import Derived.Test.YtpfgffadgkkedaaGreatDoorZ7
import Derived.Test.YtpfgffadgkkedaaGreatDoorZ1
import Derived.Test.YtpfgffadgkkedaaGreatDoorZ9
import Derived.Test.YtpfgffadgkkedaaGreatDoorZ6
set_option linter.all false
set_option maxRecDepth 100000
set_option maxHeartbeats 16000000
namespace Go.Proofs.YtpfgffadgkkedaaGreatDoor
def FM (V:Nat)(ts:List Trm):Prop:=Good ts/\(∀t∈ts,df t.1 V=true)/\ts.length<=4096/\V<=12
def UO {V:Nat}{ts:List Trm}(h:FM V ts):iu V ts=0:=by
 obtain⟨⟨h1,h2⟩,h3,h4,h5⟩:=h;unfold iu;rw[if_neg zo,if_neg zo,if_pos];rw[List.all_eq_true];intro k hk;have hk:k<ts.length:=by simpa using hk
 have e:ts.getD k default=ts[k]:=by simp[hk]
 have hm:=List.getElem_mem hk;unfold mU yh;rw[e,h3 _ hm,(ye _).2 (h2 _ hm).1];have e2:(canon (dval ts[k].2)==ts[k].2)=true:=by rw[beq_iff_eq];exact(h2 _ hm).2.symm
 rw[e2];by_cases h0:k=0
 . simp[h0]
 . have hk1:k-1<ts.length:=by omega
   have e3:ts.getD (k-1) default=ts[k-1]:=by simp[hk1]
   have:=List.pairwise_iff_getElem.1 h1 (k-1) k hk1 hk zo;rw[e3,fY,fY,this];simp
def Good.coef {l:List Trm}(h:Good l):∀t∈l,dval t.2=bR l t.1:=by
 induction l with
 |nil=>intro t ht;cases ht
 | cons x l ih=>
   intro t ht;rcases List.mem_cons.1 ht with rfl|ht
   . exact h.head.symm
   . have hne:¬x.1=t.1:=λe=>by have:=(List.pairwise_cons.1 h.1).1 t ht;rw[e,CM]at this;cases this
     simp only[bR,if_neg hne,ih h.tail t ht];grind
def amf {B:Nat}{l:List Trm}(h:∀x∈l,Sm B (dval x.2))(m:List UInt8):Sm (B+l.length) (bR l m):=by
 induction l with
 |nil=>exact Sm.zero _
 | cons x l ih=>
   have h1:=ih (λy hy=>h y (by simp[hy]));have h2:Sm B (if x.1=m then dval x.2 else 0):=by
    split
    . exact h x zm
    . exact Sm.zero _
   exact((h2.mono (show B<=B+l.length by omega)).add h1).mono zi
def al7 {B:Nat}{l:List Trm}(h:∀x∈l,Sm B (dval x.2)):∀t∈aU l,Sm (B+l.length) (dval t.2):=by intro t ht;rw[(jJ l).coef t ht,rA];exact amf h _
def Zf (l:List Trm):∀x∈aU l,∃y∈l,y.1=x.1:=by intro x hx;unfold aU at hx;obtain⟨y,hy,rfl⟩:=List.mem_map.1 hx;exact avg l y (List.mem_filter.1 hy).1
def al6 {V:Nat}{l:List Trm}(hV:V<=12)(hm:∀t∈l,df t.1 V=true)(hl:l.length<=4096):FM V (aU l):=
 ⟨jJ l,λt ht=>by obtain⟨y,hy,e⟩:=Zf l t ht;rw[<-e];exact hm y hy,Nat.le_trans (kV l) hl,hV⟩
def CR {a b:List Trm}(h:∀m,bR a m=bR b m):aU a=aU b:=Rs (jJ a) (jJ b) (λm=>by rw[rA,rA,h m])
def al5 (a b:List Trm):aU (aU a++aU b)=aU (a++b):=CR (λm=>by rw[Ai,Ai,rA,rA])
def cz (c:Dyadic)(l:List Trm):List Trm:=l.map λx=>(x.1,canon (dval x.2*c))
def Zm (c:Dyadic)(l:List Trm)(m:List UInt8):bR (cz c l) m=bR l m*c:=by
 induction l with
 |nil=>simp[cz,bR]
 |cons x l ih=>simp only[cz,List.map_cons,bR]at ih⊢;rw[ih,bu];split<;>grind
def lF (n:Nat):List UInt8:=List.replicate n 0
def cB (n k:Nat):List UInt8:=(List.replicate n 0).set k 1
def Wc (n:Nat):df (lF n) n=true:=by unfold df lF;rw[Bool.and_eq_true];refine⟨?_,by simp⟩;rw[List.all_eq_true];intro c hc;rw[(List.mem_replicate.1 hc).2];rfl
def ND (n k:Nat):df (cB n k) n=true:=by
 unfold df cB;rw[Bool.and_eq_true];refine⟨?_,by simp⟩;rw[List.all_eq_true];intro c hc;rcases List.mem_or_eq_of_mem_set hc with h|h
 . rw[(List.mem_replicate.1 h).2];rfl
 . rw[h];rfl
def fw (n:Nat)(c:Dyadic)(l:Nat->Dyadic)(k:Nat):List Trm:=(lF n,canon c)::(List.range k).map λj=>(cB n j,canon (l j))
def cZ (n:Nat)(c:Dyadic)(l:Nat->Dyadic)(k:Nat):List Trm:=aU (fw n c l k)
def Ec (n:Nat)(c:Dyadic)(l:Nat->Dyadic)(k:Nat):(fw n c l k).length=k+1:=by simp[fw]
def aea (n:Nat)(c:Dyadic)(l:Nat->Dyadic)(k:Nat):∀t∈fw n c l k,df t.1 n=true:=by
 intro t ht;unfold fw at ht;rcases List.mem_cons.1 ht with rfl|ht
 . exact Wc n
 . obtain⟨j,_,rfl⟩:=List.mem_map.1 ht;exact ND n j
def aq9 {B:Nat}(n:Nat)(c:Dyadic)(l:Nat->Dyadic)(k:Nat)(hc:Sm B c)(hl:∀j,j<k->Sm B (l j)):∀t∈fw n c l k,Sm B (dval t.2):=by
 intro t ht;unfold fw at ht;rcases List.mem_cons.1 ht with rfl|ht
 . show Sm B (dval (canon c));rw[bu];exact hc
 . obtain⟨j,hj,rfl⟩:=List.mem_map.1 ht;show Sm B (dval (canon (l j)));rw[bu];exact hl j (by simpa using hj)
def Ug (n:Nat)(c:Dyadic)(l:Nat->Dyadic)(k:Nat):fw n c l (k+1)=fw n c l k++[(cB n k,canon (l k))]:=by unfold fw;rw[List.range_succ,List.map_append];rfl
def Lg (n:Nat)(c:Dyadic)(l:Nat->Dyadic)(k:Nat)(m:List UInt8):bR (fw n c l (k+1)) m=bR (fw n c l k) m+if cB n k=m then l k else 0:=by rw[Ug,Ai];simp only[bR,bu];grind
def ara (n:Nat)(c:Dyadic)(l:Nat->Dyadic)(k:Nat):aU (cZ n c l k++aU [(cB n k,canon (l k))])=cZ n c l (k+1):=by unfold cZ;rw[al5,Ug]
def ama (n:Nat)(c d:Dyadic)(l r:Nat->Dyadic)(u v:Dyadic)(k:Nat)(m:List UInt8):bR (fw n (c*u+d*v) (λj=>l j*u+r j*v) k) m=bR (fw n c l k) m*u+bR (fw n d r k) m*v:=by
 induction k with
 |zero=>simp[fw,bR,bu];split<;>grind
 |succ k ih=>rw[Lg,ih,Lg,Lg];split<;>grind
def aq8 {n:Nat}{c d:Dyadic}{l r:Nat->Dyadic}(k:Nat)(hc:c=d)(h:∀j,j<k->l j=r j):fw n c l k=fw n d r k:=by unfold fw;rw[hc];congr 1;refine List.map_congr_left λj hj=>?_;rw[h j (by simpa using hj)]
def arb (n:Nat)(c d:Dyadic)(l r:Nat->Dyadic)(k:Nat):aU (cZ n c l k++aU (cz (-1) (cZ n d r k)))=cZ n (c-d) (λj=>l j-r j) k:=by unfold cZ;refine CR (λm=>?_);rw[Ai,rA,rA,Zm,rA];have h:=ama n c d l r 1 (-1) k m;rw[aq8 (d:=c-d) (r:=λj=>l j-r j) k (by grind) (λj _=>by grind)]at h;rw[h];grind
end Go.Proofs.YtpfgffadgkkedaaGreatDoor
namespace Go.Proofs.YtpfgffadgkkedaaGreatDoor
open Go.RowKit
attribute [local go_sem ↓] Go.wp_at_zero Go.wp_at_succ
def Tryz.aAj :(Tryz.prog.info? 43).map (λi=>(i.zero,i.size,i.bytes))=some (some (.agg #[ag false,.string (bs [])]),2,24):=by kernel_rfl
def Tryz.aAl :(Tryz.prog.info? 226).map (λi=>(i.zero,i.size,i.bytes))=some (some (.slice none 0 0),1,24):=by kernel_rfl
def iC (z:Int):List Value:=[ag (az z),ah (nt z.natAbs)]
def zC (zs:List Int):List Value:=zs.flatMap iC
def awQ (a b:List Int):zC (a++b)=zC a++zC b:=by unfold zC;rw[List.flatMap_append]
def jq (w:World)(base n:Nat)(R:List (List Int))(k:Nat)(v:Value):Prop:=
 ∃vals:List Value,vals.length=k/\w.ownsRow base 226 1 v k vals/\(∀i (h:i<vals.length),w.ownsRow base 43 2 vals[i] n (zC (R.getD i [])))/\
  ∀i j (hi:i<vals.length) (hj:j<vals.length) g,vals[i].ownBlock=some g->vals[j].ownBlock=some g->i=j
def jq.nil (w:World)(base n:Nat)(R:List (List Int)):jq w base n R 0 (.slice none 0 0):=
 ⟨[],rfl,World.ownsRow_nil _ _ _ _,λ_ h=>absurd h (Nat.not_lt_zero _),λ_ _ h=>absurd h (Nat.not_lt_zero _)⟩
def jq.below {w w':World}{base n k:Nat}{R:List (List Int)}{v:Value}(h:jq w base n R k v)(hb:Bw w w'):jq w' base n R k v:=by obtain⟨vals,hl,ho,hi,hd⟩:=h;exact⟨vals,hl,ownsRow_below ho hb,λi h=>ownsRow_below (hi i h) hb,hd⟩
def BR {W:World}{b1 b2 e1 e2 s1 s2 k1 k2:Nat}{v1 v2:Value}{x1 x2:List Value}(h1:W.ownsRow b1 e1 s1 v1 k1 x1)(h2:W.ownsRow b2 e2 s2 v2 k2 x2)(he:e1≠e2):v1.ownBlock=none\/v1.ownBlock≠v2.ownBlock:=by
 rcases h1.2 with⟨rfl,_⟩ |⟨g,cap,cur,rfl,_,hg,_⟩
 . exact .inl rfl
 . refine .inr λh=>?_;rcases h2.2 with⟨rfl,_⟩ |⟨g',cap',cur',rfl,_,hg',_⟩
   . simp[Value.ownBlock]at h
   . simp only[Value.ownBlock,Option.some.injEq]at h;subst h;rw[hg]at hg';simp at hg';exact he hg'.2
def rS {W:World}{base base':Nat}{e:TypeId}{size:Nat}{v:Value}{n:Nat}{xs:List Value}(h:W.ownsRow base e size v n xs)(hb:base'<=base):W.ownsRow base' e size v n xs:=by
 refine⟨h.1,?_⟩;rcases h.2 with h2|⟨g,cap,cur,h1,h2,h3⟩
 . exact .inl h2
 . exact .inr ⟨g,cap,cur,h1,Nat.le_trans hb h2,h3⟩
def jq.push {w w':World}{base n k:Nat}{R:List (List Int)}{v v' x:Value}{vals:List Value}(hl:vals.length=k)(hov:w.ownsRow base 226 1 v k vals)(hi:∀i (h:i<vals.length),w.ownsRow base 43 2 vals[i] n (zC (R.getD i [])))
 (hd:∀i j (hi:i<vals.length) (hj:j<vals.length) g,vals[i].ownBlock=some g->vals[j].ownBlock=some g->i=j)
 (hx:w.ownsRow base 43 2 x n (zC (R.getD k []))) (iH:∀g,x.ownBlock=some g->∀i (h:i<vals.length),vals[i].ownBlock≠some g)
 (ho:w'.ownsRow base 226 1 v' (k+1) (vals++[x])) (hg:w.grownBy w' v.ownBlock):jq w' base n R (k+1) v':=by
 refine⟨_,by simp[hl],ho,λi h=>?_,λi j h1 h2 g e1 e2=>?_⟩
 . by_cases hk:i<vals.length
   . rw[List.getElem_append_left hk];exact(hi i hk).kept hg (BR (hi i hk) hov zd)
   . have hik:i=k:=by simp at h;omega
     subst hik;rw[List.getElem_append_right zo];simp only[hl,Nat.sub_self,List.getElem_cons_zero];exact hx.kept hg (BR hx hov zd)
 . by_cases k1:i<vals.length
   . rw[List.getElem_append_left k1]at e1;by_cases k2:j<vals.length
     . rw[List.getElem_append_left k2]at e2;exact hd i j k1 k2 g e1 e2
     . have hjk:j=k:=by simp at h2;omega
       subst hjk;rw[List.getElem_append_right zo]at e2;simp only[hl,Nat.sub_self,List.getElem_cons_zero]at e2;exact absurd e1 (iH g e2 i k1)
   . have hik:i=k:=by simp at h1;omega
     subst hik;rw[List.getElem_append_right zo]at e1;simp only[hl,Nat.sub_self,List.getElem_cons_zero]at e1;by_cases k2:j<vals.length
     . rw[List.getElem_append_left k2]at e2;exact absurd e2 (iH g e1 j k2)
     . simp at h2;omega
def mD (l:Int)(ds:List Dyadic):Int:=ds.foldl (λl d=>min l (dE d)) l
def nu (l:Int)(R:List (List Dyadic)):Int:=R.foldl mD l
def rV (low:Int)(d:Dyadic):Int:=dN d*2^(dE d-low).toNat
def ael (l:Int)(ds:List Dyadic):mD l ds<=l/\∀d∈ds,mD l ds<=dE d:=by
 induction ds generalizing l with
 |nil=>exact⟨Int.le_refl _,λd h=>by cases h⟩
 | cons x xs ih=>
   have h:=ih (min l (dE x));have e:mD l (x::xs)=mD (min l (dE x)) xs:=rfl;rw[e];refine⟨by omega,λd hd=>?_⟩;rcases List.mem_cons.1 hd with rfl|hd
   . omega
   . exact h.2 d hd
def Ul (l:Int)(R:List (List Dyadic)):nu l R<=l/\∀r∈R,∀d∈r,nu l R<=dE d:=by
 induction R generalizing l with
 |nil=>exact⟨Int.le_refl _,λd h=>by cases h⟩
 | cons x xs ih=>
   have h:=ih (mD l x);have h1:=ael l x;have e:nu l (x::xs)=nu (mD l x) xs:=rfl;rw[e];refine⟨by omega,λr hr d hd=>?_⟩;rcases List.mem_cons.1 hr with rfl|hr
   . have:=h1.2 d hd;omega
   . exact h.2 r hr d hd
def aek (l:Int)(ds:List Dyadic)(m:Int)(hl:m<=l)(h:∀d∈ds,m<=dE d):m<=mD l ds:=by
 induction ds generalizing l with
 |nil=>exact hl
 |cons x xs ih=>have hx:=h x (List.mem_cons_self ..);exact ih (min l (dE x)) zo (λd hd=>h d (List.mem_cons_of_mem _ hd))
def Uk (l:Int)(R:List (List Dyadic))(m:Int)(hl:m<=l)(h:∀r∈R,∀d∈r,m<=dE d):m<=nu l R:=by
 induction R generalizing l with
 |nil=>exact hl
 |cons x xs ih=>exact ih (mD l x) (aek l x m hl (h x (List.mem_cons_self ..))) (λr hr=>h r (List.mem_cons_of_mem _ hr))
def ary (l:Int)(ds:List Dyadic)(k:Nat)(h:k<ds.length):mD l (ds.take (k+1))=min (mD l (ds.take k)) (dE ds[k]):=by unfold mD;rw[List.take_succ_eq_append_getElem h,List.foldl_append];rfl
def arz (l:Int)(R:List (List Dyadic))(k:Nat)(h:k<R.length):nu l (R.take (k+1))=mD (nu l (R.take k)) R[k]:=by unfold nu;rw[List.take_succ_eq_append_getElem h,List.foldl_append];rfl
def an3 (x y z:Value)(W:World):(Instr.field 45 (.agg #[x,y,z]) 1).run Tryz.prog W=.ok z W:=by kernel_rfl
def auO (low:Int)(d:Dyadic)(h:low<=dE d):Dyadic.ofIntWithPrec (rV low d) (-low)=d:=by
 have e: -low= -(dE d)+((dE d-low).toNat:Int):=by omega
 unfold rV;rw[e,rT];exact(vw d).symm
def aft (a:Option Addr)(L cap n:Nat)(rows:List (List Raw))(B:Nat)(low:Int)(w:World)(hL:rows.length=L)(hL8:L<=8)(DC:n<=8)(hrow:∀r∈rows,r.length=n)(ha:Tbl w a rows)
 (hfit:∀r∈rows,∀c∈r,Fit B c) (hB:B<=10000000) (hT:aB w) (kq:nu 0 (rows.map λr=>r.map dval)=low):
 Cl 200 #[.slice a L cap] w λe w'=>∃v,e=.returned (.tuple #[v,af (-low)])/\
  jq w' w.heap.size n ((rows.map λr=>r.map dval).map λr=>r.map (rV low)) L v/\Bw w w':=by
 obtain⟨i0,hi,hz0,hz1,hz2⟩:=info_parts Tryz.aAj;obtain⟨j0,hj,hy0,hy1,hy2⟩:=info_parts Tryz.aAl;obtain⟨D,hD⟩:=au (rows.map λr=>r.map dval);have LQ:D.length=L:=by rw[<-hD];simp[hL]
 have hDk:∀k (h:k<rows.length) (h':k<D.length),D[k]=rows[k].map dval:=λk h h'=>by subst hD;simp
 have Gp:∀r∈D,∀d∈r,-268435456<=dE d/\dE d<=268435456:=by intro r hr d hd;rw[<-hD]at hr;obtain⟨r',hr',rfl⟩:=List.mem_map.1 hr;obtain⟨x,hx,rfl⟩:=List.mem_map.1 hd;exact(((hfit r' hr' x hx).2).fit zo).1.2
 rw[hD]at kq⊢;have hlo:low<=0/\∀r∈D,∀d∈r,low<=dE d:=by rw[<-kq];exact Ul 0 D
 have hlb: -268435456<=low:=by rw[<-kq];exact Uk 0 D _ zd (λr hr d hd=>(Gp r hr d hd).1)
 have ID:∀k j (h:k<D.length) (h':j<=D[k].length),-268435456<=mD (nu 0 (D.take k)) (D[k].take j)/\mD (nu 0 (D.take k)) (D[k].take j)<=0:=by intro k j h h';have g1: -268435456<=nu 0 (D.take k):=Uk 0 _ _ zd (λr hr d hd=>(Gp r (List.mem_of_mem_take hr) d hd).1);have g2:=(Ul 0 (D.take k)).1;have g3:=(ael (nu 0 (D.take k)) (D[k].take j)).1;exact⟨aek _ _ _ g1 (λd hd=>(Gp _ (List.getElem_mem h) d (List.mem_of_mem_take hd)).1),by omega⟩
 obtain⟨Hi,cu,bV,bX,Hj,kR,jF,kU,NR,Wt,HDe,aiI⟩:=gL hi hz0 hz1 hz2 hj hy0 hy1 hy2 LQ hDk Gp kq;obtain⟨Fg,Hlb,Kn,Ha,HT,sI,zN,HL⟩:=nk hlo hlb ID ha hT hrow hfit hL;have hnl:IntKind.i64.wrap (-low)= -low:=by rw[IntKind.wrap_i64];omega
 obtain⟨nl,Tf⟩:=au (-low);obtain⟨S,hS⟩:=au (D.map λr=>r.map (rV low));have oP:∀k (h:k<D.length),S.getD k []=D[k].map (rV low):=λk h=>by subst hS;simp[h]
 rw[hS,Tf];have acI:IntKind.i64.wrap (-low)=nl:=by rw[hnl,Tf]
 obtain⟨zV,vK⟩:=aH acI oP;clear hnl Tf acI hS oP hi hz0 hz1 hz2 hj hy0 hy1 hy2 ID hlb hlo Gp hDk LQ kq ha hT hrow hfit hL hD;go_enter Tryz.func200,Tryz.ntmps200;have Hb:=hbz w;go_wp2_with fail;go_loopw[4,18] (λs4 x wr=>∃k:Nat,k<=L/\x=af (k:Int)/\s4=af (nu 0 (D.take k))/\Bw w wr) (λ_ x _=>L-(intOf x).toNat);case atStart=>exact⟨0,Nat.zero_le _,rfl,rfl,Hb.out⟩
 case round=>
  clear Hb;obtain⟨k,hk,rfl,rfl,pb⟩:=hrel;by_cases hlt:k<L
  . have hk2:k<rows.length:=by rw[HL.out];exact hlt
    have hk3:k<D.length:=by rw[NR.out];exact hlt
    obtain⟨p,mA⟩:=au (rows[k]);obtain⟨b,o,a1,c1,hab,hc1,hat⟩:=(Ha.out.below pb).row k hk2;have mz:p.length=n:=by rw[<-mA];exact sI.out _ (List.getElem_mem hk2)
    have jR:∀x∈p,Fit B x:=by rw[<-mA];exact zN.out _ (List.getElem_mem hk2)
    have ww:=Wt.out k hk2 hk3;rw[mA]at hc1 hat ww;rw[mz]at hc1;have oX:=Bo L cap k (k:Int) hab hlt rfl;rw[Nat.mul_one]at oX;have hst:=arz 0 D k hk3;have hpt:=λj (h:j<=n)=>Kn.out k j hk3 (by rw[ww,List.length_map,mz];exact h);rw[ww]at hst;simp only[ww]at hpt;obtain⟨l0,hl0⟩:=au (nu 0 (D.take k));rw[hl0]at hst⊢;simp only[hl0]at hpt;obtain⟨dV,mN,uA,bN,Hpt,aP⟩:=fZ hat mz jR hst hpt pb;clear hat mz jR hst hpt pb hab mA ww hl0 hk2 hk3;obtain⟨wc,hwc⟩:∃wc,wc=wr:=⟨_,rfl⟩;subst hwc;have ic:=aP.out.size;go_wp2_with fail;go_loopw[4,24] (λs4 x wr=>∃j:Nat,j<=n/\x=af (j:Int)/\s4=af (mD l0 ((p.map dval).take j))/\Bw wc wr) (λ_ x _=>n-(intOf x).toNat);case atStart=>exact⟨0,Nat.zero_le _,rfl,rfl,Below.refl _ _⟩
    case round=>
     clear hc1;obtain⟨j,hj,rfl,rfl,hb2⟩:=hrel;by_cases bB:j<n
     . have k1:j<p.length:=by rw[mN.out];exact bB
       obtain⟨sp,mp,ep,iW⟩:=nY (p[j]);have fp:=uA.out _ (List.getElem_mem k1);have hst:=ary l0 (p.map dval) j (by simpa using k1);rw[List.getElem_map,iW]at hst;rw[iW]at fp;obtain⟨X,hX⟩:=au (dval (sp,mp,ep));rw[hX]at hst;obtain⟨l1,gq⟩:=au (mD l0 ((p.map dval).take j));rw[gq]at hst⊢;obtain⟨b1,o1,ey,p0,p1,p2⟩:=(dV.out.below hb2).num j k1 iW;have acs:=ud n c1 j (j:Int) ey bB rfl;have Hp:Hid (aQ wr b1 (o1+j*3) [ag sp,ah mp,af ep]):=iI p0 p1 p2;obtain⟨oH,HX,zJ,sJ,dH⟩:=eD fp.1 hX hb2 hst ((HT.out.below aP.out).below hb2);clear hb2 fp hX hst iW ey p0 p1 p2 gq;have Hb:=hbz wr;obtain⟨ae,ai⟩:=qZ (Hp.an trivial);have p1:wr.cell? ⟨b1,o1+j*3+1,none⟩=some (ah mp):=ae.1.out.cell 1 zm;have p0:wr.cell? ⟨b1,o1+j*3,none⟩=some (ag sp):=ae.1.out.cell 0 zm;have p2:wr.cell? ⟨b1,o1+j*3+2,none⟩=some (af ep):=ae.1.out.cell 2 zm;have P0:=p0;have P1:=p1;have P2:=p2;have fl:=an3 (ag (az (dN X))) (ah (nt (dN X).natAbs)) (af (dE X));obtain⟨W4,kg,aG,ae,ai⟩:=bO wr (Hb.an ae) 45 [ag sp,ah mp,af ep];have HT:Hid (aB W4):=dH.out.below ae.2.1.out;go_wp2_with fail;refine aK (HT.an ae) (rE sp mp ep X HX.out _ oH.out HT.out) λw5 ae ai=>?_;go_wp2;go_roundw;case rel=>exact⟨j+1,by omega,by go_num,by rw[sJ.out],aF zJ.out ae.2.2.1.out⟩
       case measure=>exact bi
     . obtain rfl:j=n:=by omega
       have hpt:(p.map dval).take j=p.map dval:=List.take_of_length_le (by simp[mN.out]);rw[hpt];go_wp2;go_roundw;case rel=>exact⟨k+1,by omega,by go_num,by rw[bN.out],aF aP.out hb2⟩
       case measure=>exact bi
  . obtain rfl:k=L:=by omega
    have hDt:D.take k=D:=List.take_of_length_le (by rw[NR.out];exact Nat.le_refl _);rw[hDt,aiI.out];have aP:=aj pb;clear pb hDt;obtain⟨wa,hwa⟩:∃wa,wa=wr:=⟨_,rfl⟩;subst hwa;have VF:=aP.out.size;go_wp2_with fail;go_loopw[9,37] (λs9 x wr=>∃(i:Nat) (v:Value),i<=k/\x=af (i:Int)/\v=s9/\jq wr w.heap.size n S i v/\Bw w wr) (λ_ x _=>k-(intOf x).toNat);case atStart=>exact⟨0,_,Nat.zero_le _,rfl,rfl,jq.nil _ _ _ _,aP.out⟩
    case round=>
     clear aP VF;obtain⟨i,v,hk,rfl,rfl,pv,pb⟩:=hrel;by_cases hlt:i<k
     . have hk2:i<rows.length:=by rw[HL.out];exact hlt
       have hk3:i<D.length:=by rw[NR.out];exact hlt
       obtain⟨p,mA⟩:=au (rows[i]);obtain⟨b,o,a1,c1,hab,hc1,hat⟩:=(Ha.out.below pb).row i hk2;have mz:p.length=n:=by rw[<-mA];exact sI.out _ (List.getElem_mem hk2)
       have jR:∀x∈p,Fit B x:=by rw[<-mA];exact zN.out _ (List.getElem_mem hk2)
       have ww:=Wt.out i hk2 hk3;have wA:=vK.out i hk3;have hpl:=Fg.out.2 _ (List.getElem_mem hk3);rw[mA]at hc1 hat ww;rw[ww]at wA hpl;rw[mz]at hc1;have oX:=Bo k cap i (i:Int) hab hlt rfl;rw[Nat.mul_one]at oX;obtain⟨Z,hZ⟩:=au ((p.map dval).map (rV low));rw[hZ]at wA;obtain⟨dV,mN,uA,Ce,HZ,lM,aP,ij⟩:=nk hat mz jR wA hZ hpl pb pv;clear hat mz jR wA hZ hpl pb pv hab mA ww hk2 hk3;obtain⟨wc,hwc⟩:∃wc,wc=wr:=⟨_,rfl⟩;subst hwc;have ic:=aP.out.size;go_wp2_with fail;go_loopw[12,43] (λs12 x wr=>∃(j:Nat) (v2:Value),j<=n/\x=af (j:Int)/\v2=s12/\wr.ownsRow wc.heap.size 43 2 v2 j (zC (Z.take j))/\Bw wc wr) (λ_ x _=>n-(intOf x).toNat);case atStart=>exact⟨0,_,Nat.zero_le _,rfl,rfl,World.ownsRow_nil _ _ _ _,Below.refl _ _⟩
       case round=>
        clear hc1;obtain⟨j,v2,hj,rfl,rfl,ho,hb2⟩:=hrel;by_cases bB:j<n
        . have k1:j<p.length:=by rw[mN.out];exact bB
          obtain⟨sp,mp,ep,iW⟩:=nY (p[j]);have fp:=uA.out _ (List.getElem_mem k1);rw[iW]at fp;obtain⟨X,hX⟩:=au (dval (sp,mp,ep));have hle:low<=dE X:=lM.out X (by rw[<-hX,<-iW];exact List.mem_map_of_mem (List.getElem_mem k1));have eY:Sm B X:=by rw[<-hX];exact fp.2
          have Sj:=(eY.fit zo).1;have ki:(nt (dN X).natAbs).length<=268435456:=Sj.1;have hXe: -268435456<=dE X/\dE X<=268435456:=Sj.2;obtain⟨Y,hY⟩:=au (rV low X);have hlb:=Hlb.out;have hl0:=Fg.out.1;obtain⟨t,ht⟩:∃t:Int,dE X-low=t:=⟨_,rfl⟩;have hwr:IntKind.i64.wrap (dE X-low)=t:=by rw[IntKind.wrap_i64];omega
          have hsh:∀W,Cv 209 #[.agg #[ag (az (dN X)),ah (nt (dN X).natAbs)],af t] W (cS Y):=by intro W;have h:=VQ (az (dN X)) (nt (dN X).natAbs) (dE X-low).toNat W zo zo;rw[fu,show((dE X-low).toNat:Int)=t by omega]at h;rw[<-hY];exact h
          have bN:Hid (zC (Z.take (j+1))=zC (Z.take j)++[ag (az Y),ah (nt Y.natAbs)]):=by
           show _=_
           rw[<-HZ.out,List.take_succ_eq_append_getElem (by simpa using k1),awQ];congr 1;simp only[List.getElem_map,iW,hX,hY];rfl
          obtain⟨b1,o1,ey,p0,p1,p2⟩:=(dV.out.below hb2).num j k1 iW;have acs:=ud n c1 j (j:Int) ey bB rfl;have Hp:Hid (aQ wr b1 (o1+j*3) [ag sp,ah mp,af ep]):=iI p0 p1 p2;obtain⟨oH,HX,Ho,bW,xR,mP,dH⟩:=iX fp.1 hX ho hb2 hsh hwr ((HT.out.below aP.out).below hb2);have Ju:=hb2.size;clear ho hb2 fp hX iW ey p0 p1 p2 hle eY Sj ki hXe hY hlb hl0 ht hsh hwr;have Hb:=hbz wr;obtain⟨ae,ai⟩:=qZ (Hp.an trivial);have p1:wr.cell? ⟨b1,o1+j*3+1,none⟩=some (ah mp):=ae.1.out.cell 1 zm;have p0:wr.cell? ⟨b1,o1+j*3,none⟩=some (ag sp):=ae.1.out.cell 0 zm;have p2:wr.cell? ⟨b1,o1+j*3+2,none⟩=some (af ep):=ae.1.out.cell 2 zm;have P0:=p0;have P1:=p1;have P2:=p2;obtain⟨W4,kg,aG,ae,ai⟩:=bO wr (Hb.an ae) 45 [ag sp,ah mp,af ep];have HT:Hid (aB W4):=dH.out.below ae.2.1.out;go_wp2_with fail;refine aK (HT.an ae) (rE sp mp ep X HX.out _ oH.out HT.out) λw5 ae ai=>?_;obtain⟨W6,pW,aG,ae,ai⟩:=bO w5 ae 45 (bE X);have hwr:=mP.out;go_wp2_with fail;refine aK ae (xR.out _) λw7 ae ai=>?_;clear hwr;obtain⟨W8,abn,aG,ae,ai⟩:=bO w7 ae 43 [ag (az Y),ah (nt Y.natAbs)];have cf:=ownsRow_below Ho.out ae.2.2.2.2.1.out;have jS:=ae.2.2.2.2.1.out.size;have hnews:=fM ae.1.out;skip
          go_wp2_with (at_builtin;refine wpList_append_own_at _ rfl _ _ 226 rfl wc.heap.size 43 i0 _ 2 24 Tryz.underlying226 Hi.out cu.out bV.out bX.out rfl zd v2 j (zC (Z.take j)) rfl cf ⟨w7.heap.size,0,none⟩ 1 1 [ag (az Y),ah (nt Y.natAbs)] rfl rfl hnews zy zx zo zo ?_;intro v' w9 fC qi _ _;obtain⟨g',oL,rfl⟩:=ownsRow_succ fC);go_roundw;case rel=>
           refine⟨j+1,_,by omega,by go_num,rfl,?_,?_⟩
           . rw[bN.out];exact fC
           . exact(aF bW.out ae.2.2.2.2.1.out).grown qi zo (λj e=>cE cf j e)
          case measure=>exact bi
        . obtain rfl:j=n:=by omega
          have oQ:Z.take j=Z:=List.take_of_length_le (by rw[<-HZ.out];simp[mN.out]);rw[oQ]at ho;obtain⟨a2,cap2,rfl,_,_⟩:=cw ho;have jg:=ho.lt;obtain⟨vals,hvl,hov,om,IP⟩:=ij.out;have iH:∀g,(Value.slice a2 j cap2).ownBlock=some g->∀m (h:m<vals.length),vals[m].ownBlock≠some g:=by intro g h1 m h2 h3;have:=(jg g h1).1;have:=((om m h2).lt g h3).2;omega
          obtain⟨OP,sM,vT,cV,bW,PY,Ho⟩:=iX iH hvl om hov hb2 IP ho;have Hb:=hbz wr;have Ju:=hb2.size;clear iH hvl hov om hb2 IP jg oQ ho bB hj;obtain⟨W6,pW,aG,ae,ai⟩:=bO wr (Hb.an trivial) 226 [.slice a2 j cap2];have Ry:=aF bW.out ae.2.1.out;have cf:=ownsRow_below cV.out Ry;have jS:=ae.2.1.out.size;have hnews:∀i u,([.slice a2 j cap2]:List Value)[i]?=some u->W6.cell? ((⟨wr.heap.size,0,none⟩:Addr).add i)=some u:=fM ae.1.out;skip
          go_wp2_with (at_builtin;refine wpList_append_own_at _ rfl _ _ 211 rfl w.heap.size 226 j0 _ 1 24 Tryz.underlying211 Hj.out kR.out jF.out kU.out rfl zd v i vals rfl cf ⟨wr.heap.size,0,none⟩ 1 1 [.slice a2 j cap2] rfl rfl hnews zy zx zo zo ?_;intro v' w7 dA eo _ _;obtain⟨g',oL,rfl⟩:=ownsRow_succ dA);go_roundw;case rel=>
           refine⟨i+1,_,by omega,by go_num,rfl,?_,?_⟩
           . refine jq.push (w:=W6) sM.out cf (λm h=>ownsRow_below (vT.out m h) Ry) PY.out ?_ OP.out dA eo;rw[Ce.out];exact rS (ownsRow_below Ho.out ae.2.1.out) zo
           . exact(aF aP.out Ry).grown eo zo (λj e=>cE cf j e)
          case measure=>exact bi
     . obtain rfl:i=k:=by omega
       obtain⟨aP,ij⟩:=aH pb pv;clear pb pv;have hnl:=zV.out;go_wp2;refine bodyPost_ret (v:=.tuple #[v,af nl]) (by simp[results,Tryz.results200,go_sem]) rfl ⟨v,rfl,ij.out,aP.out⟩
end Go.Proofs.YtpfgffadgkkedaaGreatDoor
namespace Go.Proofs.YtpfgffadgkkedaaGreatDoor
open Go.RowKit
def mH {w:World}{base:Nat}{e:TypeId}{size n cap g:Nat}{xs:List Value}(h:w.ownsRow base e size (.slice (some ⟨g,0,none⟩) n cap) n xs)(j:Nat)(hj:j<xs.length):w.cell? ⟨g,j,none⟩=some xs[j]:=by
 rcases h.2 with⟨h1,_⟩ |⟨g',cap',cur,h1,_,hg,_,_,_,hx⟩
 . simp at h1
 . simp only[Value.slice.injEq,Option.some.injEq,Addr.mk.injEq,and_true,true_and]at h1;obtain⟨rfl,rfl⟩:=h1;have h2:cur.toList.take (n*size)=xs:=hx;have h3:cur.toList[j]?=some xs[j]:=by rw[<-List.getElem?_eq_getElem hj];simp only[<-h2];rw[List.getElem?_take];rw[<-h2,List.length_take]at hj;rw[if_pos (Nat.lt_of_lt_of_le hj (Nat.min_le_left _ _))]
   have h4:ar w g e cur.toList:=by unfold ar;simpa using hg
   rw[h4.cell];exact h3
def ja {w:World}{base:Nat}{e:TypeId}{size n cap g:Nat}{xs:List Value}(h:w.ownsRow base e size (.slice (some ⟨g,0,none⟩) n cap) n xs)(j:Nat)(u:Value):(w.setCell ⟨g,j,none⟩ u).ownsRow base e size (.slice (some ⟨g,0,none⟩) n cap) n (xs.set j u):=by
 refine⟨by rw[List.length_set];exact h.1,?_⟩;rcases h.2 with⟨h1,_⟩ |⟨g',cap',cur,h1,hb,hg,h4,h5,h6,hx⟩
 . simp at h1
 . simp only[Value.slice.injEq,Option.some.injEq,Addr.mk.injEq,and_true,true_and]at h1;obtain⟨rfl,rfl⟩:=h1;refine .inr ⟨g,cap,cur.setIfInBounds j u,rfl,hb,?_,h4,h5,by simpa using h6,?_⟩
   . simp[World.setCell,Array.getElem?_modify,hg]
   . rw[<-hx];simp[List.take_set]
def awS (zs:List Int):(zC zs).length=zs.length*2:=iD iC 2 (λ_=>rfl) zs
def awR (zs:List Int)(j:Nat)(hj:j<zs.length):(zC zs)[j*2]?=some (ag (az zs[j]))/\(zC zs)[j*2+1]?=some (ah (nt zs[j].natAbs)):=by
 induction zs generalizing j with
 |nil=>simp at hj
 | cons z zs ih=>
   have e:zC (z::zs)=ag (az z)::ah (nt z.natAbs)::zC zs:=rfl;rw[e];cases j with
   |zero=>exact⟨rfl,rfl⟩
   |succ j=>have:=ih j (by simpa using hj);rw[show(j+1) *2=j*2+1+1 by omega];simpa using this
def awT (zs:List Int)(j:Nat)(hj:j<zs.length)(y:Int):((zC zs).set (j*2) (ag (az y))).set (j*2+1) (ah (nt y.natAbs))=zC (zs.set j y):=by
 induction zs generalizing j with
 |nil=>simp at hj
 | cons z zs ih=>
   have e:zC (z::zs)=ag (az z)::ah (nt z.natAbs)::zC zs:=rfl;rw[e];cases j with
   |zero=>rfl
   |succ j=>have:=ih j (by simpa using hj);rw[show(j+1) *2=j*2+1+1 by omega];simp only[List.set_cons_succ];rw[this];rfl
def jq.num {w:World}{base n L:Nat}{R:List (List Int)}{v:Value}(h:jq w base n R L v)(i j:Nat)(hi:i<L)(hj:j<n)(hR:R.length=L)(hr:(R.getD i []).length=n):
 ∃go cap g c,v=.slice (some ⟨go,0,none⟩) L cap/\base<=go/\base<=g/\g≠go/\w.cell? ⟨go,i,none⟩=some (.slice (some ⟨g,0,none⟩) n c)/\
  w.cell? ⟨g,j*2,none⟩=some (ag (az ((R.getD i []).getD j 0)))/\w.cell? ⟨g,j*2+1,none⟩=some (ah (nt ((R.getD i []).getD j 0).natAbs))/\
  ∀y:Int,jq ((w.setCell ⟨g,j*2,none⟩ (ag (az y))).setCell ⟨g,j*2+1,none⟩ (ah (nt y.natAbs))) base n (R.set i ((R.getD i []).set j y)) L v:=by
 obtain⟨vals,hl,ho,hv,hd⟩:=h;have hi2:i<vals.length:=by omega
 have hrow:=hv i hi2;have hxl:(zC (R.getD i [])).length=n*2:=by rw[awS,hr]
 obtain⟨a0,cap,rfl,_,_⟩:=cw ho;obtain⟨a1,c,e1,_,hab⟩:=cw hrow;rw[e1]at hrow;rcases ho.2 with⟨h1,_⟩ |⟨go,cap',cur,h1,fT,hgo,_⟩
 . simp at h1;omega
 simp only[Value.slice.injEq,true_and]at h1;obtain⟨rfl,rfl⟩:=h1;rcases hrow.2 with⟨h1,_⟩ |⟨g,c',cur',h1,hbg,hgg,_⟩
 . simp at h1;omega
 simp only[Value.slice.injEq,true_and]at h1;obtain⟨rfl,rfl⟩:=h1;have hne:g≠go:=by rintro rfl;rw[hgo]at hgg;simp at hgg
 have hat:=awR (R.getD i []) j zo;have hg0:(R.getD i []).getD j 0=(R.getD i [])[j]'zo:=by rw[List.getD_eq_getElem?_getD,List.getElem?_eq_getElem zo];rfl
 have hc0:=mH hrow (j*2) zo;have hc1:=mH hrow (j*2+1) zo;rw[<-List.getElem?_eq_getElem]at hc0 hc1;rw[hat.1]at hc0;rw[hat.2]at hc1;refine⟨go,cap,g,c,rfl,fT,hbg,hne,?_,by rw[hg0];exact hc0,by rw[hg0];exact hc1,λy=>?_⟩
 . rw[mH ho i zo,e1]
 . refine⟨vals,hl,?_,λm hm=>?_,hd⟩
   . exact ownsRow_setCell_other (ownsRow_setCell_other ho (by simpa[Value.ownBlock]using hne.symm) _) (by simpa[Value.ownBlock]using hne.symm) _
   . by_cases wM:m=i
     . subst wM;have hs:(R.set m ((R.getD m []).set j y)).getD m []=(R.getD m []).set j y:=by rw[List.getD_eq_getElem?_getD,List.getElem?_set_self zo];rfl
       rw[hs,e1,<-awT _ _ zo];exact ja (ja hrow _ _) _ _
     . have hs:(R.set i ((R.getD i []).set j y)).getD m []=R.getD m []:=by rw[List.getD_eq_getElem?_getD,List.getElem?_set_ne (λe=>wM e.symm),<-List.getD_eq_getElem?_getD]
       rw[hs];have hno:vals[m].ownBlock≠some g:=λe=>wM (hd m i hm hi2 g e (by rw[e1];rfl));exact ownsRow_setCell_other (ownsRow_setCell_other (hv m hm) hno _) hno _
def swp (i m k:Nat):Nat:=if k=i then m else if k=m then i else k
def avt {i m a b:Nat}(h:swp i m a=swp i m b):a=b:=by
 unfold swp at h;repeat' split at h
 all_goals omega
def Nz {i m k L:Nat}(hi:i<L)(hm:m<L)(hk:k<L):swp i m k<L:=by
 unfold swp;repeat' split
 all_goals omega
def Vs {α:Type}(l:List α)(d:α)(i m:Nat)(hi:i<l.length)(hm:m<l.length)(k:Nat)(hk:k<l.length):((l.set i (l.getD m d)).set m (l.getD i d)).getD k d=l.getD (swp i m k) d:=by
 unfold swp;by_cases h1:k=m
 . subst h1;rw[List.getD_eq_getElem?_getD,List.getElem?_set_self (by simpa using hk)];by_cases h2:k=i
   . subst h2;simp
   . simp[h2]
 . rw[List.getD_eq_getElem?_getD,List.getElem?_set_ne (λe=>h1 e.symm)];by_cases h2:k=i
   . subst h2;rw[List.getElem?_set_self (by simpa using hk)];simp
   . rw[List.getElem?_set_ne (λe=>h2 e.symm)];simp[h1,h2]
def jq.swap {w:World}{base n L go cap:Nat}{R:List (List Int)}(h:jq w base n R L (.slice (some ⟨go,0,none⟩) L cap))(i m:Nat)(hi:i<L)(hm:m<L)(hR:R.length=L):
 ∃x y,w.cell? ⟨go,i,none⟩=some x/\w.cell? ⟨go,m,none⟩=some y/\jq ((w.setCell ⟨go,i,none⟩ y).setCell ⟨go,m,none⟩ x) base n ((R.set i (R.getD m [])).set m (R.getD i [])) L (.slice (some ⟨go,0,none⟩) L cap):=by
 obtain⟨vals,hl,ho,hv,hd⟩:=h;have hi2:i<vals.length:=by omega
 have hm2:m<vals.length:=by omega
 have hgo:∀k (hk:k<vals.length),vals[k].ownBlock≠some go\/vals[k].ownBlock=none:=by
  intro k hk;rcases BR (hv k hk) ho zd with e|e
  . exact .inr e
  . exact .inl e
 have hel:∀k (hk:k<vals.length),((vals.set i vals[m]).set m vals[i])[k]'(by simpa using hk)=vals[swp i m k]'(Nz hi2 hm2 hk):=by intro k hk;have:=Vs vals (ag false) i m hi2 hm2 k hk;have hs:=Nz hi2 hm2 hk;simpa[List.getD_eq_getElem?_getD,List.getElem?_eq_getElem,hi2,hm2,hk,hs]using this
 refine⟨vals[i],vals[m],mH ho i zo,mH ho m zo,_,by simp[hl],ja (ja ho i _) m _,λk hk=>?_,λa b ha hb g e1 e2=>?_⟩
 . have hk2:k<vals.length:=by simpa using hk
   have hs:=Nz hi2 hm2 hk2;rw[hel k hk2,Vs R [] i m zo zo k zo];have hno:vals[swp i m k].ownBlock≠some go:=by
    rcases hgo _ hs with e|e
    . exact e
    . rw[e];simp
   exact ownsRow_setCell_other (ownsRow_setCell_other (hv _ hs) hno _) hno _
 . have ha2:a<vals.length:=by simpa using ha
   have hb2:b<vals.length:=by simpa using hb
   rw[hel a ha2]at e1;rw[hel b hb2]at e2;exact avt (hd _ _ _ _ g e1 e2)
end Go.Proofs.YtpfgffadgkkedaaGreatDoor
namespace Go.Proofs.YtpfgffadgkkedaaGreatDoor
open Go.RowKit
attribute [local go_sem ↓] Go.wp_at_zero Go.wp_at_succ
def akL (bk k g n c:Nat)(z:Int)(w:World)(hk:w.cell? ⟨bk,0,none⟩=some (af (k:Int)))(hkn:k<n)(h0:w.cell? ⟨g,k*2,none⟩=some (ag (az z)))(h1:w.cell? ⟨g,k*2+1,none⟩=some (ah (nt z.natAbs)))(hz:(nt z.natAbs).length<=1099511627776):
 Cv 248 #[.slice (some ⟨g,0,none⟩) n c,.pointer (some ⟨bk,0,none⟩)] w (ag (decide (z≠0))):=by
 have aX:=wX n c k (k:Int) (show some (⟨g,0,none⟩:Addr)=some ⟨g,0,none⟩from rfl) hkn rfl;rw[Nat.zero_add]at aX;have Hz:=aj hz;obtain⟨s,hs⟩:=au (az z);obtain⟨l,hl⟩:=au (nt z.natAbs);have jy:=λW=>JF (az z) (nt z.natAbs) W hz;rw[fu]at jy;rw[hs,hl]at jy;rw[hs]at h0;rw[hl]at h1;obtain⟨t,ht⟩:=au (eF z);rw[ht]at jy;have hd:decide (z≠0)=decide (t≠0):=by
  rw[<-ht];unfold eF;by_cases h:z=0
  . simp[h]
  . by_cases h2:z<0
    . simp[h,h2]
    . simp[h,h2]
 rw[hd];have jp:=aj jy;clear jy hd ht hs hl hz Hz;have Hb:=hbz w;go_enter Tryz.func248,Tryz.ntmps248;go_wp2_with fail;refine aK (Hb.an trivial) (jp.out _) λw1 ae ai=>?_;clear h0 h1 hk aX;go_wp2;refine bodyPost_ret (results_tmp rfl _ _ _) rfl ⟨?_,ae.1.out⟩;by_cases h:t=0<;>simp[h]
def aqx (p:Value->Bool)(vs:List Value)(q:Nat->Bool)(c:Nat)(h:∀i (hi:i<vs.length),p vs[i]=q i):
 idxFrom p vs c=match (List.range vs.length).find? q with|none=>-1|some m=>((c+m:Nat):Int):=by
 induction vs generalizing c q with
 |nil=>rfl
 | cons v vs ih=>
   have h0:=h 0 zm;have hs:=ih (λi=>q (i+1)) (c+1) (λi hi=>h (i+1) (by simpa using hi));simp only[List.getElem_cons_zero]at h0;rw[List.length_cons,List.range_succ_eq_map,List.find?_cons];unfold idxFrom;rw[h0];cases hq:q 0 with
   |true=>simp
   | false=>
     rw[hs,List.find?_map];simp only[Bool.false_eq_true,if_false];have e:(q∘Nat.succ)=λi=>q (i+1):=rfl;rw[e];cases (List.range vs.length).find? λi=>q (i+1)with
     |none=>rfl
     |some m=>simp only[Option.map_some];congr 1;omega
def atn (p:Value->Bool)(vals:List Value)(f:Nat->Nat->Int)(n k:Nat)(hn:vals.length=n)(h:∀i (hi:i<vals.length),p vals[i]=decide (f i k≠0)):
 idxFrom p (vals.drop k) 0=match qN f n k with|none=>-1|some m=>(m:Int):=by
 rw[aqx p (vals.drop k) (λi=>f (k+i) k !=0) 0 (λi hi=>by
  rw[List.getElem_drop,h]
  simp[bne,Bool.beq_eq_decide_eq])]
 unfold qN;rw[List.length_drop,hn];simp only[Nat.zero_add]
def awj (x y:Int)(w:World)(hx:(nt x.natAbs).length<=34359738368)(hy:(nt y.natAbs).length<=34359738368)(h0:y≠0)(hd:y∣x):
 Cl 250 #[.agg #[ag (az x),ah (nt x.natAbs)],.agg #[ag (az y),ah (nt y.natAbs)]] w λe w'=>∃r,e=.returned (.tuple #[cS (x/y),r,ag true])/\Bw w w':=by
 have h:=awk (az x) (az y) (nt x.natAbs) (nt y.natAbs) w hx hy (by rw[jl];omega) (by rw[jl,jl];exact Nat.mod_eq_zero_of_dvd (Int.natAbs_dvd_natAbs.2 hd));rw[fu,fu]at h;exact h
end Go.Proofs.YtpfgffadgkkedaaGreatDoor
namespace Go.Proofs.YtpfgffadgkkedaaGreatDoor
open Go.RowKit
def eW (f:Nat->Nat->Int)(n:Nat):List (List Int):=(List.range n).map λa=>(List.range n).map (f a)
def Jv (f:Nat->Nat->Int)(n:Nat):(eW f n).length=n:=by simp[eW]
def NB (f:Nat->Nat->Int)(n i:Nat)(h:i<n):(eW f n).getD i []=(List.range n).map (f i):=by simp[eW,List.getD_eq_getElem?_getD,h]
def avA (f:Nat->Nat->Int)(n i j:Nat)(h:i<n)(h':j<n):((eW f n).getD i []).getD j 0=f i j:=by rw[NB f n i h];simp[List.getD_eq_getElem?_getD,h']
def avB (f:Nat->Nat->Int)(n i j:Nat)(y:Int)(h:i<n):(eW f n).set i (((eW f n).getD i []).set j y)=eW (λa b=>if a=i/\b=j then y else f a b) n:=by
 rw[NB f n i h];apply List.ext_getElem
 . simp[eW]
 . intro a h1 h2;have ha:a<n:=by simpa[eW]using h2
   rw[List.getElem_set];split
   . rename_i e
     subst e;apply List.ext_getElem
     . simp[eW]
     . intro b h3 h4;have hb:b<n:=by simpa[eW]using h4
       rw[List.getElem_set];by_cases e2:j=b
       . subst e2;simp[eW]
       . have e3:¬b=j:=λe=>e2 e.symm;simp[eW,e2,e3]
   . rename_i e
     have e3:¬a=i:=λe'=>e e'.symm;simp[eW,e3]
def avC (f:Nat->Nat->Int)(n k m:Nat)(h:k<n)(h':m<n):((eW f n).set k ((eW f n).getD m [])).set m ((eW f n).getD k [])=eW (bU f k m) n:=by
 apply List.ext_getElem
 . simp[eW]
 . intro a h1 h2;have ha:a<n:=by simpa[eW]using h2
   have hs:=Vs (eW f n) [] k m (by rw[Jv];exact h) (by rw[Jv];exact h') a (by rw[Jv];exact ha);rw[List.getD_eq_getElem?_getD,List.getElem?_eq_getElem h1]at hs;simp only[Option.getD_some]at hs;rw[hs,NB f n _ (Nz h h' ha)];simp[eW,bU,swp]
def Ej {w:World}{base:Nat}{e:TypeId}{size n cap g:Nat}{xs:List Value}(h:w.ownsRow base e size (.slice (some ⟨g,0,none⟩) n cap) n xs):base<=g/\∃cur,ar w g e cur:=by
 rcases h.2 with⟨h1,_⟩ |⟨g',cap',cur,h1,hb,hg,_,_,_,hx⟩
 . simp at h1
 . simp only[Value.slice.injEq,Option.some.injEq,Addr.mk.injEq,and_true,true_and]at h1;obtain⟨rfl,rfl⟩:=h1;exact⟨hb,cur.toList,by unfold ar;simpa using hg⟩
def UH {w:World}{base:Nat}{e:TypeId}{size n:Nat}{v:Value}{xs:List Value}(h:w.ownsRow base e size v n xs)(hn:1<=n):∃g cap,v=.slice (some ⟨g,0,none⟩) n cap:=by
 rcases h.2 with⟨h1,h2⟩ |⟨g',cap',cur,h1,_⟩
 . omega
 . exact⟨g',cap',h1⟩
def avz {f g:Nat->Nat->Int}(n:Nat)(h:∀a b,a<n->b<n->f a b=g a b):eW f n=eW g n:=by unfold eW;refine List.map_congr_left (λa ha=>List.map_congr_left (λb hb=>h a b (List.mem_range.1 ha) (List.mem_range.1 hb)))
def akh (w:World)(go L top:Nat):Prop:=go<top/\∀m g n c,m<L->w.cell? ⟨go,m,none⟩=some (.slice (some ⟨g,0,none⟩) n c)->g<top
def BS (w0 w:World)(base n go cap top:Nat)(f:Nat->Nat->Int):Prop:=
 jq w base n (eW f n) n (.slice (some ⟨go,0,none⟩) n cap)/\akh w go n top/\Below base w0 w/\top<=w.heap.size
def BS.begin {w:World}{base n:Nat}{f:Nat->Nat->Int}{v:Value}(h:jq w base n (eW f n) n v)(hn:1<=n):∃go cap,v=.slice (some ⟨go,0,none⟩) n cap/\n<=cap/\BS w w base n go cap w.heap.size f:=by
 have h0:=h;obtain⟨vals,hl,ho,hv,_⟩:=h;obtain⟨go,cap,rfl⟩:=UH ho hn;refine⟨go,cap,rfl,BM ho,h0,⟨?_,λm g n' c hm hc=>?_⟩,Below.refl _ _,Nat.le_refl _⟩
 . obtain⟨_,cur,hb⟩:=Ej ho;exact hb.lt
 . have hm2:m<vals.length:=by omega
   rw[mH ho m hm2]at hc;simp only[Option.some.injEq]at hc;have hrow:=hv m hm2;obtain⟨g',cap',e⟩:=UH hrow hn;rw[e]at hrow hc;simp at hc;obtain⟨rfl,rfl,rfl⟩:=hc;exact(Ej hrow).2.choose_spec.lt
def BS.below {w0 w w':World}{base n go cap top:Nat}{f:Nat->Nat->Int}(h:BS w0 w base n go cap top f)(hb:Bw w w')(oV:base<=top):BS w0 w' base n go cap top f:=by
 obtain⟨h1,⟨h2,h3⟩,h4,h5⟩:=h;have hs:=hb.size;refine⟨h1.below hb,⟨h2,λm g n' c hm hc=>h3 m g n' c hm ?_⟩,?_,by omega⟩
 . rw[World.cell?_of_block (a:=⟨go,m,none⟩) (w:=w) (hb.block go zo)]at hc;exact hc
 . exact h4.trans (hb.mono zo)
def BS.congr {w0 w:World}{base n go cap top:Nat}{f g:Nat->Nat->Int}(h:BS w0 w base n go cap top f)(he:∀a b,a<n->b<n->f a b=g a b):BS w0 w base n go cap top g:=by unfold BS at*;rw[<-avz n he];exact h
def BS.row {w0 w:World}{base n go cap top:Nat}{f:Nat->Nat->Int}(h:BS w0 w base n go cap top f)(i:Nat)(hi:i<n):
 ∃g c,base<=g/\g<top/\w.cell? ⟨go,i,none⟩=some (.slice (some ⟨g,0,none⟩) n c)/\(∀j,j<n->w.cell? ⟨g,j*2,none⟩=some (ag (az (f i j)))/\w.cell? ⟨g,j*2+1,none⟩=some (ah (nt (f i j).natAbs)))/\
  (∀q,w.frozen? ⟨g,q,none⟩=false)/\
  ∀j,j<n->∀y:Int,BS w0 ((w.setCell ⟨g,j*2,none⟩ (ag (az y))).setCell ⟨g,j*2+1,none⟩ (ah (nt y.natAbs))) base n go cap top (λa b=>if a=i/\b=j then y else f a b):=by
 obtain⟨h1,⟨h2,h3⟩,h4,h5⟩:=h;have hR:(eW f n).length=n:=Jv f n;have hr:((eW f n).getD i []).length=n:=by rw[NB f n i hi];simp
 obtain⟨vals,hl,ho,hv,hd⟩:=id h1;have hi2:i<vals.length:=by omega
 have hrow:=hv i hi2;obtain⟨g,c,e⟩:=UH hrow zo;rw[e]at hrow;obtain⟨hbg,cur,hblk⟩:=Ej hrow;have hc0:w.cell? ⟨go,i,none⟩=some (.slice (some ⟨g,0,none⟩) n c):=by rw[mH ho i hi2,e]
 refine⟨g,c,hbg,h3 i g n c hi hc0,hc0,λj hj=>?_,λq=>hblk.free q,λj hj y=>?_⟩
 . obtain⟨go',cap',g',c',e0,_,_,_,e1,e2,e3,_⟩:=h1.num i j hi hj hR hr;simp at e0;obtain⟨rfl,rfl⟩:=e0;rw[hc0]at e1;simp at e1;obtain⟨rfl,rfl⟩:=e1;rw[avA f n i j hi hj]at e2 e3;exact⟨e2,e3⟩
 . obtain⟨go',cap',g',c',e0,hb1,hb2,hne,e1,e2,e3,hw⟩:=h1.num i j hi hj hR hr;simp at e0;obtain⟨rfl,rfl⟩:=e0;rw[hc0]at e1;simp at e1;obtain⟨rfl,rfl⟩:=e1;have h6:=hw y;rw[avB f n i j y hi]at h6;refine⟨h6,⟨h2,λm g' n' c' hm hc=>h3 m g' n' c' hm ?_⟩,(h4.setCell hb2 _).setCell hb2 _,by simpa using h5⟩;rw[World.cell?_setCell_far _ _ _ _ (by simpa using hne),World.cell?_setCell_far _ _ _ _ (by simpa using hne)]at hc;exact hc
def BS.swap {w0 w:World}{base n go cap top:Nat}{f:Nat->Nat->Int}(h:BS w0 w base n go cap top f)(i m:Nat)(hi:i<n)(hm:m<n):
 ∃g1 c1 g2 c2,w.cell? ⟨go,i,none⟩=some (.slice (some ⟨g1,0,none⟩) n c1)/\w.cell? ⟨go,m,none⟩=some (.slice (some ⟨g2,0,none⟩) n c2)/\(∀q,w.frozen? ⟨go,q,none⟩=false)/\
  BS w0 ((w.setCell ⟨go,i,none⟩ (.slice (some ⟨g2,0,none⟩) n c2)).setCell ⟨go,m,none⟩ (.slice (some ⟨g1,0,none⟩) n c1)) base n go cap top (bU f i m):=by
 have hb:=h;obtain⟨g1,c1,_,t1,e1,_⟩:=hb.row i hi;obtain⟨g2,c2,_,t2,e2,_⟩:=hb.row m hm;obtain⟨h1,⟨h2,h3⟩,h4,h5⟩:=h;obtain⟨_,_,ho,_,_⟩:=id h1;obtain⟨fT,cur,hblk⟩:=Ej ho;obtain⟨x,y,q1,q2,hw⟩:=h1.swap i m hi hm (Jv f n);rw[e1]at q1;rw[e2]at q2;simp only[Option.some.injEq]at q1 q2;subst q1 q2;rw[avC f n i m hi hm]at hw;refine⟨g1,c1,g2,c2,e1,e2,λq=>hblk.free q,hw,⟨h2,λm' g' n' c' hm' hc=>?_⟩,(h4.setCell fT _).setCell fT _,by simpa using h5⟩;by_cases h7:m'=m
 . subst h7;rw[ar.cell ((hblk.set i _).set m' _)]at hc;rw[List.getElem?_set_self']at hc;have:g'=g1:=by
    cases hq:(cur.set i (.slice (some ⟨g2,0,none⟩) n c2))[m']? with
    |none=>rw[hq]at hc;simp at hc
    |some z=>rw[hq]at hc;simp at hc;exact hc.1.symm
   omega
 . rw[World.cell?_setCell_other _ _ _ _ (show(⟨go,m,none⟩:Addr)≠⟨go,m',none⟩from λe=>h7 (by simpa using e.symm))]at hc;by_cases h8:m'=i
   . subst h8;rw[ar.cell (hblk.set m' _),List.getElem?_set_self']at hc;have:g'=g2:=by
      cases hq:cur[m']? with
      |none=>rw[hq]at hc;simp at hc
      |some z=>rw[hq]at hc;simp at hc;exact hc.1.symm
     omega
   . rw[World.cell?_setCell_other _ _ _ _ (show(⟨go,i,none⟩:Addr)≠⟨go,m',none⟩from λe=>h8 (by simpa using e.symm))]at hc;exact h3 m' g' n' c' hm' hc
end Go.Proofs.YtpfgffadgkkedaaGreatDoor
namespace Go.Proofs.YtpfgffadgkkedaaGreatDoor
open Go.RowKit
attribute [local go_sem ↓] Go.wp_at_zero Go.wp_at_succ
def BT (w0 w:World)(base n go cap top:Nat)(f:Nat->Nat->Int)(r l kb:Nat)(last:Int)(k:Nat):Prop:=
 BS w0 w base n go cap top f/\ar w r 43 [ag false,.string ⟨#[]⟩]/\ar w l 43 [ag (az last),ah (nt last.natAbs)]/\ar w kb 3 [af (k:Int)]/\base<=top/\top<=r/\top<=l/\top<=kb
def BT.below {w0 w w':World}{base n go cap top:Nat}{f:Nat->Nat->Int}{r l kb:Nat}{last:Int}{k:Nat}(h:BT w0 w base n go cap top f r l kb last k)(hb:Bw w w'):BT w0 w' base n go cap top f r l kb last k:=by obtain⟨h1,h2,h3,h4,h5,h6⟩:=h;exact⟨h1.below hb h5,h2.below hb,h3.below hb,h4.below hb,h5,h6⟩
def BT.congr {w0 w:World}{base n go cap top:Nat}{f g:Nat->Nat->Int}{r l kb:Nat}{last:Int}{k:Nat}(h:BT w0 w base n go cap top f r l kb last k)(he:∀a b,a<n->b<n->f a b=g a b):BT w0 w base n go cap top g r l kb last k:=
 ⟨h.1.congr he,h.2⟩
def BT.drew {w0 w:World}{base n go cap top:Nat}{f:Nat->Nat->Int}{r l kb:Nat}{last:Int}{k:Nat}(h:BT w0 w base n go cap top f r l kb last k):BT w0 w.drew base n go cap top f r l kb last k:=h.below ((Below.refl _ _).drew)
def BT.row {w0 w:World}{base n go cap top:Nat}{f:Nat->Nat->Int}{r l kb:Nat}{last:Int}{k:Nat}(h:BT w0 w base n go cap top f r l kb last k)(i:Nat)(hi:i<n):
 ∃g c,g<w.heap.size/\g<top/\w.cell? ⟨go,i,none⟩=some (.slice (some ⟨g,0,none⟩) n c)/\(∀j,j<n->w.cell? ⟨g,j*2,none⟩=some (ag (az (f i j)))/\w.cell? ⟨g,j*2+1,none⟩=some (ah (nt (f i j).natAbs)))/\
  (∀q,w.frozen? ⟨g,q,none⟩=false)/\
  ∀j,j<n->∀y:Int,BT w0 ((w.setCell ⟨g,j*2,none⟩ (ag (az y))).setCell ⟨g,j*2+1,none⟩ (ah (nt y.natAbs))) base n go cap top (λa b=>if a=i/\b=j then y else f a b) r l kb last k:=by
 obtain⟨h1,h2,h3,h4,h5,h6,h7,h8⟩:=h;have h9:=h1.2.2.2;obtain⟨g,c,hb,ht,e1,e2,e3,hw⟩:=h1.row i hi;refine⟨g,c,by omega,ht,e1,e2,e3,λj hj y=>⟨hw j hj y,?_,?_,?_,h5,h6,h7,h8⟩⟩
 . exact(h2.so _ _ zo _).so _ _ zo _
 . exact(h3.so _ _ zo _).so _ _ zo _
 . exact(h4.so _ _ zo _).so _ _ zo _
def BT.swap {w0 w:World}{base n go cap top:Nat}{f:Nat->Nat->Int}{r l kb:Nat}{last:Int}{k:Nat}(h:BT w0 w base n go cap top f r l kb last k)(i m:Nat)(hi:i<n)(hm:m<n):
 ∃g1 c1 g2 c2,w.cell? ⟨go,i,none⟩=some (.slice (some ⟨g1,0,none⟩) n c1)/\w.cell? ⟨go,m,none⟩=some (.slice (some ⟨g2,0,none⟩) n c2)/\(∀q,w.frozen? ⟨go,q,none⟩=false)/\
  BT w0 ((w.setCell ⟨go,i,none⟩ (.slice (some ⟨g2,0,none⟩) n c2)).setCell ⟨go,m,none⟩ (.slice (some ⟨g1,0,none⟩) n c1)) base n go cap top (bU f i m) r l kb last k:=by
 obtain⟨h1,h2,h3,h4,h5,h6,h7,h8⟩:=h;have h9:=h1.2.1.1;obtain⟨g1,c1,g2,c2,e1,e2,e3,hw⟩:=h1.swap i m hi hm;refine⟨g1,c1,g2,c2,e1,e2,e3,hw,?_,?_,?_,h5,h6,h7,h8⟩
 . exact(h2.so _ _ zo _).so _ _ zo _
 . exact(h3.so _ _ zo _).so _ _ zo _
 . exact(h4.so _ _ zo _).so _ _ zo _
def BT.aAq {w0 w:World}{base n go cap top:Nat}{f:Nat->Nat->Int}{r l kb:Nat}{last:Int}{k:Nat}(h:BT w0 w base n go cap top f r l kb last k)(i:Nat)(hi:i<n):
 ∃g c,g<w.heap.size/\g<top/\w.cell? ⟨go,i,none⟩=some (.slice (some ⟨g,0,none⟩) n c)/\(∀j,j<n->w.cell? ⟨g,j*2,none⟩=some (ag (az (f i j)))/\w.cell? ⟨g,j*2+1,none⟩=some (ah (nt (f i j).natAbs)))/\
  ∀w',Bw w w'->(∀q,w'.frozen? ⟨g,q,none⟩=false)/\∀j,j<n->∀y:Int,BT w0 ((w'.setCell ⟨g,j*2,none⟩ (ag (az y))).setCell ⟨g,j*2+1,none⟩ (ah (nt y.natAbs))) base n go cap top (λa b=>if a=i/\b=j then y else f a b) r l kb last k:=by
 obtain⟨g,c,h1,h2,h3,h4,_,_⟩:=h.row i hi;refine⟨g,c,h1,h2,h3,h4,λw' hb=>?_⟩;obtain⟨g',c',_,_,e3,_,e5,e6⟩:=(h.below hb).row i hi;have:=cell_later hb h3;rw[e3]at this;simp at this;obtain⟨rfl,rfl⟩:=this;exact⟨e5,e6⟩
def BS.setOther {w0 w:World}{base n go cap top:Nat}{f:Nat->Nat->Int}(h:BS w0 w base n go cap top f)(oV:base<=top)(p o:Nat)(u:Value)(hp:top<=p):BS w0 (w.setCell ⟨p,o,none⟩ u) base n go cap top f:=by
 have hbs:=h;obtain⟨⟨vals,hl,ho,hv,hd⟩,⟨h2,h3⟩,h4,h5⟩:=h;refine⟨⟨vals,hl,ownsRow_setCell_other ho (by simp[Value.ownBlock];omega) _,λi hi=>?_,hd⟩,⟨h2,λm g n' c hm hc=>h3 m g n' c hm ?_⟩,h4.setCell zp _,by simpa using h5⟩
 . obtain⟨g,c,_,ht,e,_⟩:=hbs.row i zo;rw[mH ho i hi]at e;have e1:vals[i]=.slice (some ⟨g,0,none⟩) n c:=by simpa using e
   exact ownsRow_setCell_other (hv i hi) (by rw[e1];simp[Value.ownBlock];omega) _
 . rw[World.cell?_setCell_far _ _ _ _ zp]at hc;exact hc
def BT.setLast {w0 w:World}{base n go cap top:Nat}{f:Nat->Nat->Int}{r l kb:Nat}{last:Int}{k:Nat}(h:BT w0 w base n go cap top f r l kb last k)(x:Int)(h1:l≠r)(h2:l≠kb):
 BT w0 ((w.setCell ⟨l,0,none⟩ (ag (az x))).setCell ⟨l,1,none⟩ (ah (nt x.natAbs))) base n go cap top f r l kb x k:=by
 obtain⟨q1,q2,q3,q4,q5,q6,q7,q8⟩:=h;exact⟨(q1.setOther q5 l 0 _ q7).setOther q5 l 1 _ q7,(q2.so _ _ h1 _).so _ _ h1 _,(q3.set 0 _).set 1 _,(q4.so _ _ h2 _).so _ _ h2 _,q5,q6,q7,q8⟩
def awo (x y N:Int)(h:x-y=N)(w:World)(hx:(nt x.natAbs).length<=34359738368)(hy:(nt y.natAbs).length<=34359738368):
 Cv 249 #[.agg #[ag (az x),ah (nt x.natAbs)],.agg #[ag (az y),ah (nt y.natAbs)]] w (cS N):=by
 have:=VR (az x) (nt x.natAbs) (az y) (nt y.natAbs) w hx hy;rw[fu,fu,h]at this;exact this
def age (x y N:Int)(h:x*y=N)(b cap:Nat)(ty:TypeId)(w:World)(hx:(nt x.natAbs).length<=17179869184)(hy:(nt y.natAbs).length<=17179869184)(ha:ar w b ty [ag (az x),ah (nt x.natAbs),ag (az y),ah (nt y.natAbs)]):
 Cv 126 #[.slice (some ⟨b,0,none⟩) 2 cap] w (cS N):=
 agf _ _ _ _ N (by rw[fu,fu,h]) b cap ty w hx hy ha
def BS.row_ne {w0 w:World}{base n go cap top:Nat}{f:Nat->Nat->Int}(h:BS w0 w base n go cap top f)(i:Nat)(hi:i<n){g c:Nat}(hc:w.cell? ⟨go,i,none⟩=some (.slice (some ⟨g,0,none⟩) n c)):g≠go:=by
 obtain⟨⟨vals,hl,ho,hv,hd⟩,_⟩:=h;have hi2:i<vals.length:=by omega
 rw[mH ho i hi2]at hc;simp only[Option.some.injEq]at hc;have hrow:=hv i hi2;rw[hc]at hrow;obtain⟨_,c1,b1⟩:=Ej hrow;obtain⟨_,c2,b2⟩:=Ej ho;rintro rfl;have:=b1.symm.trans b2;simp at this
def Jk (f:Nat->Nat->Int)(n k:Nat):Int:=match qN f n k with|none=>-1|some m=>(m:Int)
open Classical in
def BS.index {w0 w:World}{base n go cap top:Nat}{f:Nat->Nat->Int}(h:BS w0 w base n go cap top f)(k kb:Nat)(hk:k<n)(hn:n<=8)(hkb:w.cell? ⟨kb,0,none⟩=some (af (k:Int)))(hz:∀a b,a<n->b<n->(nt (f a b).natAbs).length<=1099511627776):
 Cv 247 #[.slice (some ⟨go,k,none⟩) (n-k) (cap-k),.func (.func 248) #[] #[.pointer (some ⟨kb,0,none⟩)]] w (af (Jk f n k)):=by
 have hbs:=h;obtain⟨h1,_,_,_⟩:=h;obtain⟨vals,hl,ho,hv,hd⟩:=h1;have hrow:∀i (hi:i<vals.length),∃g c,vals[i]=.slice (some ⟨g,0,none⟩) n c/\∀j,j<n->w.cell? ⟨g,j*2,none⟩=some (ag (az (f i j)))/\w.cell? ⟨g,j*2+1,none⟩=some (ah (nt (f i j).natAbs)):=by intro i hi;obtain⟨g,c,_,_,e1,e2,_⟩:=hbs.row i zo;rw[mH ho i hi]at e1;exact⟨g,c,by simpa using e1,e2⟩
 have hinj:∀i j (hi:i<vals.length) (hj:j<vals.length),vals[i]=vals[j]->i=j:=by intro i j hi hj e;obtain⟨g,c,e1,_⟩:=hrow i hi;exact hd i j hi hj g (by rw[e1];rfl) (by rw[<-e,e1];rfl)
 obtain⟨p,hp⟩:∃p:Value->Bool,∀i (hi:i<vals.length),p vals[i]=decide (f i k≠0):=by
  refine⟨λv=>decide (∃i,∃hi:i<vals.length,vals[i]=v/\f i k≠0),λi hi=>?_⟩;by_cases h0:f i k≠0
  . have:∃j,∃hj:j<vals.length,vals[j]=vals[i]/\f j k≠0:=⟨i,hi,rfl,h0⟩;show decide _=decide _
    rw[decide_eq_true this,decide_eq_true h0]
  . have:¬∃j,∃hj:j<vals.length,vals[j]=vals[i]/\f j k≠0:=by rintro⟨j,hj,e,h2⟩;exact h0 (by rw[<-hinj j i hj hi e];exact h2)
    simp only[this,h0,decide_false]
 have hpv:=atn p vals f n k zo hp;have hat:At w (some ⟨go,k,none⟩) (vals.drop k):=by refine .inr ⟨go,k,rfl,λj hj=>?_⟩;rw[List.length_drop]at hj;rw[mH ho (k+j) zo,List.getElem?_drop,List.getElem?_eq_getElem]
 have:=aqt (some ⟨go,k,none⟩) (n-k) (cap-k) (vals.drop k) 248 #[.pointer (some ⟨kb,0,none⟩)] p w (by rw[List.length_drop,hl]) zo hat (enters_of Tryz.func248 zk rfl) (λv hv W hb=>by
  obtain⟨i,hi,rfl⟩:=List.mem_iff_getElem.1 hv;rw[List.getElem_drop];have hi2:k+i<vals.length:=by rw[List.length_drop]at hi;omega
  obtain⟨g,c,e1,e2⟩:=hrow (k+i) hi2;obtain⟨e3,e4⟩:=e2 k hk;rw[hp (k+i) hi2,e1]
  exact akL kb k g n c (f (k+i) k) W (cell_later hb hkb) hk (cell_later hb e3) (cell_later hb e4) (hz _ _ zo hk))
 rw[hpv]at this;exact this
def Bs (w0 w:World)(base n go cap top r l K:Nat)(Z:Int)(k:Nat)(f:Nat->Nat->Int)(last:Int)(t:Bool):Prop:=
 BS w0 w base n go cap top f/\ar w r 43 [ag false,.string ⟨#[]⟩]/\ar w l 43 [ag (az last),ah (nt last.natAbs)]/\gK n (n-k) k f last/\eX n (n-k) k f last t=Z/\last≠0/\
  ∃Q,Q+1<=2^k* (K+1)/\last.natAbs<2^Q/\∀a b,a<n->b<n->(f a b).natAbs<2^Q
def avs (f:Nat->Nat->Int)(k:Nat):bU f k (k+0)=f:=by
 funext a b;unfold bU
 simp only[Nat.add_zero];by_cases h:a=k
 . rw[if_pos h,h]
 . rw[if_neg h,if_neg h]
def Bs.none {w0 w:World}{base n go cap top r l K k:Nat}{Z:Int}{f:Nat->Nat->Int}{last:Int}{t:Bool}(h:Bs w0 w base n go cap top r l K Z k f last t)(hk:k<n)(hp:qN f n k=none):Z=0:=by obtain⟨_,_,_,_,h2,_⟩:=h;rw[show n-k=n-(k+1)+1 by omega]at h2;unfold eX at h2;rw[hp]at h2;exact h2.symm
def Bs.some {w0 w:World}{base n go cap top r l K k m:Nat}{Z:Int}{f:Nat->Nat->Int}{last:Int}{t:Bool}(h:Bs w0 w base n go cap top r l K Z k f last t)(hk:k<n)(hp:qN f n k=some m):
 ∃g,g=bU f k (k+m)/\g k k≠0/\(∀a b,k<a->a<n->k<b->b<n->last∣bZ g k a b)/\gK n (n-(k+1)) (k+1) (dD g k last) (g k k)/\eX n (n-(k+1)) (k+1) (dD g k last) (g k k) (t !=decide (0<m))=Z/\
  ∃Q,2*Q+2<=2^(k+1) * (K+1)/\last.natAbs<2^Q/\(∀a b,a<n->b<n->(g a b).natAbs<2^Q)/\(g k k).natAbs<2^(2*Q+1)/\∀a b,a<n->b<n->(dD g k last a b).natAbs<2^(2*Q+1):=by
 obtain⟨_,_,_,h1,h2,h3,Q,hQ,hl,hf⟩:=h;have Be:=mI hp;rw[show n-k=n-(k+1)+1 by omega]at h1 h2;unfold gK at h1;unfold eX at h2;rw[hp]at h1 h2;simp only at h1 h2;obtain⟨g,hg⟩:∃g,g=bU f k (k+m):=⟨_,rfl⟩;rw[<-hg]at h1 h2;have iT:∀a b,a<n->b<n->(g a b).natAbs<2^Q:=by
  intro a b ha hb;rw[hg];unfold bU;refine hf _ _ ?_ hb;split
  . omega
  . split
    . omega
    . exact ha
 have Gv:2^Q<=2^(2*Q+1):=Nat.pow_le_pow_right zd zo;refine⟨g,hg,?_,h1.1,h1.2,h2,Q,?_,hl,iT,Nat.lt_of_lt_of_le (iT k k hk hk) Gv,λa b ha hb=>?_⟩
 . rw[hg];unfold bU;rw[if_pos rfl];exact Be.2
 . rw[Nat.pow_succ];have:2^k*2* (K+1)=2* (2^k* (K+1)):=by rw[Nat.mul_comm (2^k) 2,Nat.mul_assoc]
   omega
 . unfold dD;split
   . rename_i h4
     have h5:=(Uz g k a b Q (iT a b ha hb) (iT k k hk hk) (iT a k ha hk) (iT k b hk hb)).2.2;rcases div_lt _ last _ h5 with h6|h6
     . exact h6
     . exact absurd (h1.1 a b h4.1 ha h4.2 hb) h6
   . exact Nat.lt_of_lt_of_le (iT a b ha hb) Gv
def Bs.next {w0 w:World}{base n go cap top r l kb K k:Nat}{Z:Int}{f g:Nat->Nat->Int}{x:Int}{t:Bool}(h:BT w0 w base n go cap top f r l kb x k)(hf:∀a b,a<n->b<n->f a b=g a b)(hx:x≠0)(h1:gK n (n-(k+1)) (k+1) g x)(h2:eX n (n-(k+1)) (k+1) g x t=Z)
 (h3:∃Q,Q+1<=2^(k+1) * (K+1)/\x.natAbs<2^Q/\∀a b,a<n->b<n->(g a b).natAbs<2^Q):Bs w0 w base n go cap top r l K Z (k+1) g x t:=
 ⟨(h.congr hf).1,h.2.1,h.2.2.1,h1,h2,hx,h3⟩
def KJ (a0:Act)(w0:World)(cs:List (Addr×Value))(x1 x2 x3 x4 P1 P2 N:Int)(dn:Nat->Bool)(a:Act)(w:World):Prop:=
 ∃v1 v2 v3 v4 v5 v6:Value,a=(((((a0.put (some 76) v1).put (some 77) v2).put (some 92) v3).put (some 93) v4).put (some 94) v5).put (some 10) v6/\jG cs w/\Bw w0 w/\
  (dn 14=true->∃b,v1=.slice (some ⟨b,0,none⟩) 2 2/\ar w b 43 [ag (az x1),ah (nt x1.natAbs),ag (az x2),ah (nt x2.natAbs)])/\(dn 15=true->v2=cS P1)/\
  (dn 30=true->∃b,v3=.slice (some ⟨b,0,none⟩) 2 2/\ar w b 43 [ag (az x3),ah (nt x3.natAbs),ag (az x4),ah (nt x4.natAbs)])/\(dn 31=true->v4=cS P2)/\(dn 32=true->v5=cS N)/\
  (dn 33=true->∃b,v6=.pointer (some ⟨b,0,none⟩)/\w0.heap.size<=b/\ar w b 43 [ag false,.string ⟨#[]⟩])
def KJ.init (a:Act)(w0 w:World)(cs:List (Addr×Value))(x1 x2 x3 x4 P1 P2 N:Int)(hk:jG cs w)(hb:Bw w0 w):KJ a w0 cs x1 x2 x3 x4 P1 P2 N (λ_=>false) a w:=
 ⟨a.tmps.getD 76 undef,a.tmps.getD 77 undef,a.tmps.getD 92 undef,a.tmps.getD 93 undef,a.tmps.getD 94 undef,a.tmps.getD 10 undef,by rw[Em,Em,Em,Em,Em,Em],hk,hb,(λh=>by cases h),(λh=>by cases h),(λh=>by cases h),(λh=>by cases h),(λh=>by cases h),(λh=>by cases h)⟩
def akM (base n K:Nat)(f:Nat->Nat->Int)(v:Value)(w:World)(hn:1<=n)(aS:n<=4)(hO:jq w base n (eW f n) n v)(dM:base<=w.heap.size)(De:1<=K)(hK:∀a b,a<n->b<n->(f a b).natAbs<2^K)(hK2:K<=100000000):
 Cl 201 #[v] w λe w'=>e=.returned (cS (eX n n 0 f 1 false))/\Below base w w':=by
 obtain⟨go,cap,rfl,hcap,hbs⟩:=BS.begin hO hn;obtain⟨Z,hZ⟩:=au (eX n n 0 f 1 false);have hex:=aab n hn aS f;have hsz:∀k Q:Nat,k<=n->Q+1<=2^k* (K+1)->Q<=1800000000:=by intro k Q h1 h2;have h3:2^k<=2^4:=Nat.pow_le_pow_right zd zo;have h4:=Nat.mul_le_mul_right (K+1) h3;omega
 rw[hZ];obtain⟨Xc,HZ,Xl,sL,HK⟩:=eD hbs hZ hex hsz hK;clear hO hbs hZ hex hsz hK;have Hb:=hbz w;go_enter Tryz.func201,Tryz.ntmps201;go_wp2_with fail;refine cF w (Hb.an trivial) 43 [ag false,.string ⟨#[]⟩] λW aG ae ai=>?_;go_wp2_with fail;refine aK ae (VO 1 _ zd zd) λw1 ae ai=>?_;obtain⟨W2,ke,aG,ae,ai⟩:=bO w1 ae 43 [ag (az 1),ah (nt 1)];have Wo:=aj (Xc.out.below ae.2.2.1.out zo);have apS:w.heap.size<w1.heap.size:=zo;have hq0:=ae.2.1.out;have hq1:=ae.1.out;skip
 have hst:Bs w W2 base n go cap w.heap.size w.heap.size w1.heap.size K Z 0 f 1 false:=⟨Wo.out,hq0,hq1,Xl.out,HZ.out,by decide,K,by omega,by rw[show(1:Int).natAbs=1 from rfl];exact Nat.one_lt_two_pow zo,HK.out⟩;clear hq0 hq1;have bN:=aj hst;have szW:=ae.2.2.1.out.size;clear hst Wo Xc HK Xl HZ;go_wp2_with fail;go_loopw[5,15] (λs5 x wr=>∃(k:Nat) (f':Nat->Nat->Int) (last:Int) (t:Bool),k<=n/\x=af (k:Int)/\s5=ag t/\Bs w wr base n go cap w.heap.size w.heap.size w1.heap.size K Z k f' last t) (λ_ x _=>n-(intOf x).toNat);case atStart=>exact⟨0,f,1,false,Nat.zero_le _,rfl,rfl,bN.out⟩
 case round=>
  clear bN;obtain⟨k,f',last,t,hk,rfl,rfl,hS⟩:=hrel;obtain⟨wk,hwk⟩:∃wk,wk=wr:=⟨_,rfl⟩;subst hwk;by_cases hlt:k<n
  . obtain⟨Q0,hQ0,_,hQf⟩:=hS.2.2.2.2.2.2;have fS:=sL.out k Q0 hk hQ0;have hlen:∀a b,a<n->b<n->(nt (f' a b).natAbs).length<=1099511627776:=λa b ha hb=>lv (hQf a b ha hb) zo;have hkc:k<cap:=by omega
    obtain⟨HS,jE⟩:=aH hS hlen;have BV:=hS.1.2.2.2;clear hS hQ0 hQf fS hlen;have Hb:=hbz wk;obtain⟨Hr,Hl⟩:=aH HS.out.2.1 HS.out.2.2.1;obtain⟨ae,ai⟩:=qZ (Hr.an<|Hl.an trivial);obtain⟨W3,Di,aG,ae,ai⟩:=bO wk (Hb.an ae) 3 [af (k:Int)];have kK:=aj (HS.out.1.below ae.2.1.out zo);have eT:W3.cell? ⟨wk.heap.size,0,none⟩=some (af (k:Int)):=ae.1.out.cell 0;go_wp2_with fail;refine aK ae (kK.out.index k wk.heap.size hlt zo eT jE.out) λw4 ae ai=>?_;cases hp:qN f' n k with
    | none=>
      have hpv:Jk f' n k= -1:=by unfold Jk;rw[hp]
      have hz:=HS.out.none hlt hp;rw[hpv];have Oj:=aj (HS.out.1.2.2.1.trans (ae.2.1.out.mono zo));clear HS jE kK hp;go_wp2;have r1:w4.cell? ⟨w.heap.size,1,none⟩=some (.string ⟨#[]⟩):=ae.2.2.1.out.cell 1;have r0:w4.cell? ⟨w.heap.size,0,none⟩=some (ag false):=ae.2.2.1.out.cell 0;refine bodyPost_ret (v:=.agg #[ag false,.string ⟨#[]⟩]) (by simp[results,Tryz.results201,go_sem,r0,r1]) rfl ⟨by rw[hz];rfl,?_⟩;exact(Oj.out.setCell zp _).setCell zp _
    | some m=>
      have hpv:Jk f' n k=(m:Int):=by unfold Jk;rw[hp]
      rw[hpv];obtain⟨ol,_⟩:=mI hp;obtain⟨g,hg,mY,od,ab5,abJ,Q,hQ,Ie,iT,acg,tZ⟩:=HS.out.some hlt hp;have hl0:=HS.out.2.2.2.2.2.1;have oV:BT w w4 base n go cap w.heap.size f' w.heap.size w1.heap.size wk.heap.size last k:=⟨HS.out.1.below ae.2.1.out zo,ae.2.2.1.out,ae.2.2.2.1.out,ae.1.out,by omega,Nat.le_refl _,by omega,by omega⟩;obtain⟨xG,Hdv,Xm,Xa,HQ,XH,Xy,XA,mO,Hg,Cn,jV⟩:=gL oV od ab5 abJ hQ Ie iT acg tZ hg mY hl0;clear oV od ab5 abJ hQ Ie iT acg tZ hg mY hl0 hpv hp HS jE kK;have hm0:¬(m:Int)<0:=by omega
      go_upto_if 27 with fail
      go_cut[5] (λs5 wx=>s5=ag (t !=decide (0<m))/\BT w wx base n go cap w.heap.size g w.heap.size w1.heap.size wk.heap.size last k);case first=>
       by_cases hm:0<m
       . have wM:(0:Int)<(m:Int):=by omega
         obtain⟨g1,c1,g2,c2,e1,e2,e3,hsw⟩:=xG.out.swap k (k+m) hlt zo;rw[<-Hg.out]at hsw;have PQ:=aj hsw;have oX:=DY n cap k (k:Int) (rfl:(some ⟨go,0,none⟩:Option Addr)=_) hlt rfl;have rH:=DY n cap (k+m) ((k+m:Nat):Int) (rfl:(some ⟨go,0,none⟩:Option Addr)=_) zo rfl;rw[Nat.zero_add,Nat.mul_one]at oX rH;have hwm:IntKind.i64.wrap ((k:Int)+(m:Int))=((k+m:Nat):Int):=by rw[IntKind.wrap_i64];omega
         obtain⟨km,oY⟩:=au (k+m);rw[oY]at e2 rH hwm PQ;have pI:=aj xG.out.2.2.2.1;have FD:Hid (aQ w4 go k [.slice (some ⟨g1,0,none⟩) n c1]):=λj hj=>by
          obtain rfl:j=0:=by simp at hj;omega
          exact e1
         have FE:Hid (aQ w4 go km [.slice (some ⟨g2,0,none⟩) n c2]):=λj hj=>by
          obtain rfl:j=0:=by simp at hj;omega
          exact e2
         have z1:w4.drew.frozen? ⟨go,k,none⟩=false:=e3 k;have z2:w4.drew.frozen? ⟨go,km,none⟩=false:=e3 km;have z3:w4.frozen? ⟨go,km,none⟩=false:=e3 km;have y2:(w4.setCell ⟨go,k,none⟩ (.slice (some ⟨g2,0,none⟩) n c2)).cell? ⟨go,km,none⟩=some (.slice (some ⟨g2,0,none⟩) n c2):=aC (.inr zp) e2;have Hkm:=aj oY;clear hsw e1 e2 e3 oY;go_wp2_with fail;obtain⟨ae,ai⟩:=qZ (pI.an<|FD.an<|FE.an trivial);have hgo:go<wk.heap.size:=by have:=xG.out.1.2.1.1;omega
         obtain⟨pI,FD,FE,_⟩:=ae;have eT:=pI.out.c1;have xa0:=FD.out.w1;have xb0:=FE.out.w1;refine awH (λw'=>aJ w' (wk.heap.size) 0 (af (k:Int))) (λi=>Nat.blt i 19) (.rd 0 (.rd 1 (.rd 2 (.rd 3 (.rd 4 (.rd 5 (.rd 6 (.rd 7 (.rd 8 (.rd 9 (.rd 10 (.rd 12 (.rd 13 (.rd 14 (.br 11 15 (.lin [(15,false),(16,true),(17,false),(18,false),(19,false)]) (.lin [(11,false),(16,true),(17,false),(18,false),(19,false)])))))))))))))))) zk zk rfl zk zc eT ?_;iterate 14 (refine atv rfl rfl (v:=?_) (λw' hw'=>?_) ?_;rotate_left;(focus go_simp;try with_reducible rfl))
         refine atu rfl rfl rfl rfl rfl rfl  (λK hK=>?_) (λK hK=>?_) 
         . go_simp;refine hK _ _ (by first|exact λ_=>eT|exact λ_=>gG zg eT) ?_
           refine ae2 ?_;refine aO rfl rfl (λK hK=>?_);go_simp;refine hK _ _ (by first|exact λh=>absurd h zd|exact λ_=>eT|exact λ_=>gG zg eT) ?_
           refine pT rfl rfl ?_
           refine aO rfl rfl (λK hK=>?_);go_simp;refine hK _ _ (by first|exact λh=>absurd h zd|exact λ_=>eT|exact λ_=>gG zg eT) ?_
           refine aO rfl rfl (λK hK=>?_);go_simp;refine hK _ _ (by first|exact λh=>absurd h zd|exact λ_=>eT|exact λ_=>gG zg eT) ?_
           refine aO rfl rfl (λK hK=>?_);go_simp;refine hK _ _ (by first|exact λh=>absurd h zd|exact λ_=>eT|exact λ_=>gG zg eT) ?_
           simp only[bH];go_wp2_with fail;go_meet;exact⟨by simp[hm],PQ.out.drew⟩
         . go_simp;refine hK _ _ (by first|exact λ_=>eT|exact λ_=>gG zg eT) ?_
           refine ae2 ?_;refine aO rfl rfl (λK hK=>?_);go_simp;refine hK _ _ (by first|exact λh=>absurd h zd|exact λ_=>eT|exact λ_=>gG zg eT) ?_
           refine pT rfl rfl ?_
           refine aO rfl rfl (λK hK=>?_);go_simp;refine hK _ _ (by first|exact λh=>absurd h zd|exact λ_=>eT|exact λ_=>gG zg eT) ?_
           refine aO rfl rfl (λK hK=>?_);go_simp;refine hK _ _ (by first|exact λh=>absurd h zd|exact λ_=>eT|exact λ_=>gG zg eT) ?_
           refine aO rfl rfl (λK hK=>?_);go_simp;refine hK _ _ (by first|exact λh=>absurd h zd|exact λ_=>eT|exact λ_=>gG zg eT) ?_
           simp only[bH];go_wp2_with fail;go_meet;exact⟨by simp[hm],PQ.out.drew⟩
       . have hm2:¬(0:Int)<(m:Int):=by omega
         obtain rfl:m=0:=by omega
         go_wp2_with fail;go_meet;refine⟨by simp,?_⟩;rw[Hg.out,avs];exact xG.out
      case rest=>
       obtain⟨rfl,oV⟩:=hcut;have xG:=aj oV;have fS:=sL.out (k+1) (2*Q+1) zo (by have:=HQ.out;omega);clear oV;have eT:wc.cell? ⟨wk.heap.size,0,none⟩=some (af (k:Int)):=xG.out.2.2.2.1.cell 0;go_wp2_with fail;go_loopw[8] (λx wr=>∃i:Nat,k<i/\i<=n/\x=af (i:Int)/\BT w wr base n go cap w.heap.size (lC g k last i (k+1)) w.heap.size w1.heap.size wk.heap.size last k) (λx _=>n-(intOf x).toNat);case atStart=>exact⟨k+1,by omega,by omega,by go_num,by rw[atj];exact xG.out⟩
       case round=>
        clear eT xG;obtain⟨i,uX,hin,rfl,hT⟩:=hrel;have EN:=aj hT;clear hT;have eT:wr.cell? ⟨wk.heap.size,0,none⟩=some (af (k:Int)):=EN.out.2.2.2.1.cell 0;by_cases bB:i<n
        . obtain⟨wi,qF⟩:∃wi,wi=wr:=⟨_,rfl⟩;subst qF;go_wp2_with fail;go_loopw[9] (λx wr=>∃j:Nat,k<j/\j<=n/\x=af (j:Int)/\BT w wr base n go cap w.heap.size (lC g k last i j) w.heap.size w1.heap.size wk.heap.size last k) (λx _=>n-(intOf x).toNat);case atStart=>exact⟨k+1,by omega,by omega,by go_num,EN.out⟩
          case round=>
           clear eT EN;obtain⟨j,hkj,hjn,rfl,hT⟩:=hrel;by_cases jg:j<n
           . have Cg:=aj hT;clear hT;obtain⟨gi,ci,li,ti,ei,ri,_⟩:=Cg.out.row i bB;obtain⟨gk,ck,lk,tk,ek,rk,_⟩:=Cg.out.row k hlt;obtain⟨p1,p2,p3,p4⟩:=atg g k last i j;obtain⟨aa,KN⟩:=ri j jg;obtain⟨ab,KO⟩:=rk k hlt;obtain⟨ac,KP⟩:=ri k hlt;obtain⟨ad,KR⟩:=rk j jg;rw[p1]at aa KN;rw[p2]at ab KO;rw[p3]at ac KP;rw[p4]at ad KR;have iT:=Xy.out;have q1:=iT i j bB jg;have q2:=iT k k hlt hlt;have q3:=iT i k bB hlt;have q4:=iT k j hlt jg;obtain⟨m1,m2,m3⟩:=Uz g k i j Q q1 q2 q3 q4;have od:=Hdv.out i j uX bB hkj jg;have AY:=fun a b=>congrFun (congrFun (ath g k last i j uX hkj) a) b;have hN:g i j*g k k-g i k*g k j=bZ g k i j:=rfl;generalize bZ g k i j=N at*;obtain⟨x1,hx1⟩:∃x,g i j=x:=⟨_,rfl⟩;obtain⟨x2,hx2⟩:∃x,g k k=x:=⟨_,rfl⟩;obtain⟨x3,hx3⟩:∃x,g i k=x:=⟨_,rfl⟩;obtain⟨x4,hx4⟩:∃x,g k j=x:=⟨_,rfl⟩;rw[hx1]at q1 m1 hN aa KN;rw[hx2]at q2 m1 hN ab KO;rw[hx3]at q3 m2 hN ac KP;rw[hx4]at q4 m2 hN ad KR;obtain⟨P1,RQ⟩:∃x,x1*x2=x:=⟨_,rfl⟩;obtain⟨P2,tq⟩:∃x,x3*x4=x:=⟨_,rfl⟩;rw[RQ]at m1 hN;rw[tq]at m2 hN;have L1:(nt x1.natAbs).length<=17179869184:=lv q1 zo;have L2:(nt x2.natAbs).length<=17179869184:=lv q2 zo;have L3:(nt x3.natAbs).length<=17179869184:=lv q3 zo;have L4:(nt x4.natAbs).length<=17179869184:=lv q4 zo;have L5:(nt P1.natAbs).length<=34359738368:=lv m1 zo;have L6:(nt P2.natAbs).length<=34359738368:=lv m2 zo;have L7:(nt N.natAbs).length<=34359738368:=lv m3 zo;have L8:(nt last.natAbs).length<=34359738368:=lv XH.out zo;obtain⟨kL,Wz,ED,WA,WB,WC,WE,WF,WJ,WK,HN,ES⟩:=gL L1 L2 L3 L4 L5 L6 L7 L8 RQ tq hN od;have XP:=aj AY;clear L1 L2 L3 L4 L5 L6 L7 L8 RQ tq hN od AY q1 q2 q3 q4 m1 m2 m3 hx1 hx2 hx3 hx4 iT p1 p2 p3 p4 ri rk;have JG:∀(b o:Nat) (u v:Value),wr.cell? ⟨b,o,none⟩=some u->wr.cell? ⟨b,o+1,none⟩=some v->aQ wr b o [u,v]:=by
              intro b o u v h1 h2 j hj;rcases j with _|_|j
              . exact h1
              . exact h2
              . simp at hj;omega
             have VV:∀(b o:Nat) (u:Value),wr.cell? ⟨b,o,none⟩=some u->aQ wr b o [u]:=by
              intro b o u h1 j hj;obtain rfl:j=0:=by simp at hj;omega
              exact h1
             obtain⟨pI,rq,pN,qV,kM,EJ,sf⟩:=iX Cg.out.2.2.2.1 (VV _ _ _ ei) (VV _ _ _ ek) (JG _ _ _ _ aa KN) (JG _ _ _ _ ab KO) (JG _ _ _ _ ac KP) (JG _ _ _ _ ad KR);clear VV JG ei ek aa KN ab KO ac KP ad KR;have ixi:=DY n cap i (i:Int) (rfl:(some ⟨go,0,none⟩:Option Addr)=_) bB rfl;have ixk:=DY n cap k (k:Int) (rfl:(some ⟨go,0,none⟩:Option Addr)=_) hlt rfl;rw[Nat.zero_add,Nat.mul_one]at ixi ixk;have MR:=wX n ci j (j:Int) (rfl:(some ⟨gi,0,none⟩:Option Addr)=_) jg rfl;have iik:=wX n ci k (k:Int) (rfl:(some ⟨gi,0,none⟩:Option Addr)=_) hlt rfl;have ikj:=wX n ck j (j:Int) (rfl:(some ⟨gk,0,none⟩:Option Addr)=_) jg rfl;have ikk:=wX n ck k (k:Int) (rfl:(some ⟨gk,0,none⟩:Option Addr)=_) hlt rfl;rw[Nat.zero_add]at MR iik ikj ikk;go_upto_region 18 with fail
             go_cut[10] (λJs wx=>∃b:Nat,Js=.pointer (some ⟨b,0,none⟩)/\ar wx b 43 [ag (az N),ah (nt N.natAbs)]/\Bw wr wx);case first=>
              clear Xy HQ XH XA mO Hg Xa Xm XP ES Cn Cg;obtain⟨w0,hw0⟩:∃w0,w0=w:=⟨_,rfl⟩;subst hw0;obtain⟨w,TN⟩:∃w,w=wr:=⟨_,rfl⟩;subst TN;have Hb:=hbz w;obtain⟨ae,ai⟩:=qZ (pI.an<|rq.an<|pN.an<|qV.an<|kM.an<|EJ.an<|sf.an trivial);obtain⟨pI,rq,pN,qV,kM,EJ,sf,_⟩:=ae;have eT:=pI.out.c1;have vF:=rq.out.w1;have zz:=pN.out.w1;obtain⟨Qv,Qw⟩:=qV.out.w2;obtain⟨xY,xZ⟩:=kM.out.w2;obtain⟨ac0,ac1⟩:=EJ.out.w2;obtain⟨ad0,ad1⟩:=sf.out.w2;obtain⟨cs,hcs⟩:∃cs:List (Addr×Value),[(⟨wk.heap.size,0,none⟩,af (k:Int)),(⟨go,i,none⟩,.slice (some ⟨gi,0,none⟩) n ci),(⟨go,k,none⟩,.slice (some ⟨gk,0,none⟩) n ck),(⟨gi,j*2,none⟩,ag (az x1)),(⟨gi,j*2+1,none⟩,ah (nt x1.natAbs)),(⟨gk,k*2,none⟩,ag (az x2)),(⟨gk,k*2+1,none⟩,ah (nt x2.natAbs)),(⟨gi,k*2,none⟩,ag (az x3)),(⟨gi,k*2+1,none⟩,ah (nt x3.natAbs)),(⟨gk,j*2,none⟩,ag (az x4)),(⟨gk,j*2+1,none⟩,ah (nt x4.natAbs))]=cs:=⟨_,rfl⟩;have qT:∀w',jG cs w'->aJ w' (wk.heap.size) 0 (af (k:Int))/\aJ w' go i (.slice (some ⟨gi,0,none⟩) n ci)/\aJ w' go k (.slice (some ⟨gk,0,none⟩) n ck)/\aJ w' gi (j*2) (ag (az x1))/\aJ w' gi (j*2+1) (ah (nt x1.natAbs))/\aJ w' gk (k*2) (ag (az x2))/\aJ w' gk (k*2+1) (ah (nt x2.natAbs))/\aJ w' gi (k*2) (ag (az x3))/\aJ w' gi (k*2+1) (ah (nt x3.natAbs))/\aJ w' gk (j*2) (ag (az x4))/\aJ w' gk (j*2+1) (ah (nt x4.natAbs)):=by subst hcs;intro w' h;exact⟨h.hd,h.tl.hd,h.tl.tl.hd,h.tl.tl.tl.hd,h.tl.tl.tl.tl.hd,h.tl.tl.tl.tl.tl.hd,h.tl.tl.tl.tl.tl.tl.hd,h.tl.tl.tl.tl.tl.tl.tl.hd,h.tl.tl.tl.tl.tl.tl.tl.tl.hd,h.tl.tl.tl.tl.tl.tl.tl.tl.tl.hd,h.tl.tl.tl.tl.tl.tl.tl.tl.tl.tl.hd⟩
              have lH:Hid (jG cs w):=by subst hcs;show jG _ _;intro p hp;simp only[List.mem_cons,List.not_mem_nil,or_false]at hp;rcases hp with rfl|rfl|rfl|rfl|rfl|rfl|rfl|rfl|rfl|rfl|rfl<;>assumption
              refine awG (λw'=>jG cs w') (λi=>Nat.blt i 34) [14,15,30,31,32,33] (λk=>if k=15 then[14]else if k=31 then[15,30]else if k=32 then[15,31]else[]) [(34,false)] [0,1,2,3,4,5,6,7,8,9,10,11,12,13,16,17,18,19,20,21,22,23,24,25,26,27,28,29] zk zk rfl zk zc lH.out.drew ?_;iterate 28 (refine atr rfl rfl (v:=?_) (λw' hw'=>?_) ?_;rotate_left;(focus have hw':=qT w' hw';obtain⟨q0,q1,q2,q3,q4,q5,q6,q7,q8,q9,q10⟩:=hw';go_simp;try with_reducible rfl))
              clear eT vF zz Qv Qw xY xZ ac0 ac1 ad0 ad1 pI rq pN qV kM EJ sf qT hcs;refine atq (λa0=>KJ a0 w cs x1 x2 x3 x4 P1 P2 N) (KJ.init _ _ _ _ _ _ _ _ _ _ _ lH.out.drew (Below.refl _ _).drew) ?_ ?_ ?_
              . rintro dn a' w' ⟨_,_,_,_,_,_,_,h,_⟩;exact h
              . intro k0 fG dn a' w' _ hD hI;obtain⟨v1,v2,v3,v4,v5,v6,rfl,wy,wu,f1,f2,f3,f4,f5,f6⟩:=hI;simp only[List.mem_cons,List.not_mem_nil,or_false]at fG;rcases fG with rfl|rfl|rfl|rfl|rfl|rfl
                . have De:=wy.alloc (.cells #[ag (az x1),ah (nt x1.natAbs),ag (az x2),ah (nt x2.natAbs)] 43);have hal:=(Below.refl w'.heap.size w').alloc (Nat.le_refl _) (.cells #[ag (az x1),ah (nt x1.natAbs),ag (az x2),ah (nt x2.natAbs)] 43);refine Ei rfl rfl (λK hK=>?_);clear f1;simp only[Act.put,U1,U2,U3];go_simp;refine hK _ _ ⟨.slice (some ⟨w'.heap.size,0,none⟩) 2 2,v2,v3,v4,v5,v6,by simp only[Act.put,U1,U2,U3],De,aF wu hal,λ_=>⟨_,rfl,ar.new _ _ _⟩,λh=>f2 (by simpa using h),λh=>?_,λh=>f4 (by simpa using h),λh=>f5 (by simpa using h),λh=>?_⟩
                  . obtain⟨b,e,q⟩:=f3 (by simpa using h);exact⟨b,e,q.below hal⟩
                  . obtain⟨b,e,hb,q⟩:=f6 (by simpa using h);exact⟨b,e,hb,q.below hal⟩
                . obtain⟨b,rfl,q⟩:=f1 (hD 14 zm);refine Ei rfl rfl (λK hK=>?_);clear f1;simp only[Act.put,U1,U2,U3];go_simp;with_reducible refine(age x1 x2 P1 WJ.out b 2 _ _ kL.out Wz.out q).mono ?_
                  rintro e w2 ⟨rfl,hq⟩;refine hK _ _ ⟨_,cS P1,v3,v4,v5,v6,by simp only[Act.put,U1,U2,U3],wy.below hq,aF wu hq,λ_=>⟨b,rfl,q.below hq⟩,λ_=>rfl,λh=>?_,λh=>f4 (by simpa using h),λh=>f5 (by simpa using h),λh=>?_⟩
                  . obtain⟨b,e,q⟩:=f3 (by simpa using h);exact⟨b,e,q.below hq⟩
                  . obtain⟨b,e,hb,q⟩:=f6 (by simpa using h);exact⟨b,e,hb,q.below hq⟩
                . have De:=wy.alloc (.cells #[ag (az x3),ah (nt x3.natAbs),ag (az x4),ah (nt x4.natAbs)] 43);have hal:=(Below.refl w'.heap.size w').alloc (Nat.le_refl _) (.cells #[ag (az x3),ah (nt x3.natAbs),ag (az x4),ah (nt x4.natAbs)] 43);refine Ei rfl rfl (λK hK=>?_);clear f3;simp only[Act.put,U1,U2,U3];go_simp;refine hK _ _ ⟨v1,v2,.slice (some ⟨w'.heap.size,0,none⟩) 2 2,v4,v5,v6,by simp only[Act.put,U1,U2,U3],De,aF wu hal,λh=>?_,λh=>f2 (by simpa using h),λ_=>⟨_,rfl,ar.new _ _ _⟩,λh=>f4 (by simpa using h),λh=>f5 (by simpa using h),λh=>?_⟩
                  . obtain⟨b,e,q⟩:=f1 (by simpa using h);exact⟨b,e,q.below hal⟩
                  . obtain⟨b,e,hb,q⟩:=f6 (by simpa using h);exact⟨b,e,hb,q.below hal⟩
                . obtain⟨b,rfl,q⟩:=f3 (hD 30 zm);obtain rfl:=f2 (hD 15 zm);refine Ei rfl rfl (λK hK=>?_);clear f3;simp only[Act.put,U1,U2,U3];go_simp;with_reducible refine(age x3 x4 P2 WK.out b 2 _ _ ED.out WA.out q).mono ?_
                  rintro e w2 ⟨rfl,hq⟩;refine hK _ _ ⟨v1,cS P1,.slice (some ⟨b,0,none⟩) 2 2,cS P2,v5,v6,by simp only[Act.put,U1,U2,U3],wy.below hq,aF wu hq,λh=>?_,λ_=>rfl,λ_=>⟨b,rfl,q.below hq⟩,λ_=>rfl,λh=>f5 (by simpa using h),λh=>?_⟩
                  . obtain⟨b,e,q⟩:=f1 (by simpa using h);exact⟨b,e,q.below hq⟩
                  . obtain⟨b,e,hb,q⟩:=f6 (by simpa using h);exact⟨b,e,hb,q.below hq⟩
                . obtain rfl:=f2 (hD 15 zm);obtain rfl:=f4 (hD 31 zm);refine Ei rfl rfl (λK hK=>?_);clear f2 f4;simp only[Act.put,U1,U2,U3];go_simp;with_reducible refine(awo P1 P2 N HN.out _ WB.out WC.out).mono ?_
                  rintro e w2 ⟨rfl,hq⟩;refine hK _ _ ⟨v1,_,v3,_,cS N,v6,by simp only[Act.put,U1,U2,U3],wy.below hq,aF wu hq,λh=>?_,λ_=>rfl,λh=>?_,λ_=>rfl,λ_=>rfl,λh=>?_⟩
                  . obtain⟨b,e,q⟩:=f1 (by simpa using h);exact⟨b,e,q.below hq⟩
                  . obtain⟨b,e,q⟩:=f3 (by simpa using h);exact⟨b,e,q.below hq⟩
                  . obtain⟨b,e,hb,q⟩:=f6 (by simpa using h);exact⟨b,e,hb,q.below hq⟩
                . have De:=wy.alloc (.cells #[ag false,.string ⟨#[]⟩] 43);have hal:=(Below.refl w'.heap.size w').alloc (Nat.le_refl _) (.cells #[ag false,.string ⟨#[]⟩] 43);refine Ei rfl rfl (λK hK=>?_);clear f6;simp only[Act.put,U1,U2,U3];go_simp;refine hK _ _ ⟨v1,v2,v3,v4,v5,.pointer (some ⟨w'.heap.size,0,none⟩),by simp only[Act.put,U1,U2,U3],De,aF wu hal,λh=>?_,λh=>f2 (by simpa using h),λh=>?_,λh=>f4 (by simpa using h),λh=>f5 (by simpa using h),λ_=>⟨_,rfl,wu.size,ar.new _ _ _⟩⟩
                  . obtain⟨b,e,q⟩:=f1 (by simpa using h);exact⟨b,e,q.below hal⟩
                  . obtain⟨b,e,q⟩:=f3 (by simpa using h);exact⟨b,e,q.below hal⟩
              . intro dn a' w' hall hI;obtain⟨v1,v2,v3,v4,v5,v6,rfl,wy,wu,f1,f2,f3,f4,f5,f6⟩:=hI;obtain rfl:=f5 (hall 32 zm);obtain⟨b,rfl,hb,q⟩:=f6 (hall 33 zm);obtain⟨xo,axK,xp,axL⟩:=q.g2;have hQ9:=(q.set 0 (ag (az N))).set 1 (ah (nt N.natAbs));have hB9:=(wu.sc b 0 hb (ag (az N))).sc b 1 hb (ah (nt N.natAbs));clear f1 f2 f3 f4 f5 f6;refine aO rfl rfl (λK hK=>?_);simp only[Act.put,U1,U2,U3];go_simp;refine hK _ _ (λh=>absurd h zd) ?_;simp only[bH];go_wp2_with fail;go_meet;exact⟨b,rfl,hQ9,hB9⟩
             case rest=>
              obtain⟨bx,rfl,qx,qb⟩:=hcut;obtain⟨uw,zU⟩:=aH (Cg.out.below qb) qx;clear qx qb Cg pI rq pN qV kM EJ sf ixk iik ikj ikk MR kL Wz ED WA WB WC WJ WK HN li lk ti tk;obtain⟨g9,c9,lt9,lu9,e9,r9,f9⟩:=uw.out.aAq i bB;have ne9:=uw.out.1.row_ne i bB e9;have nx9:bx≠g9:=by rintro rfl;have h1:=(r9 1 zo).1;rw[zU.out.cell]at h1;simp at h1
              obtain⟨Ve,Vf⟩:=r9 j jg;obtain⟨y,hy⟩:=au (lC g k last i j i j);rw[hy]at Ve Vf;have rq:Hid (aQ wc go i [.slice (some ⟨g9,0,none⟩) n c9]):=λj hj=>by
               obtain rfl:j=0:=by simp at hj;omega
               exact e9
              have qV:Hid (aQ wc g9 (j*2) [ag (az y),ah (nt y.natAbs)]):=λj' hj=>by
               rcases j' with _|_|j'
               . exact Ve
               . exact Vf
               . simp at hj;omega
              have Hl:=aj uw.out.2.2.1;have MR:=wX n c9 j (j:Int) (rfl:(some ⟨g9,0,none⟩:Option Addr)=_) jg rfl;rw[Nat.zero_add]at MR;obtain⟨Dv,RD⟩:=au (N/last);have hdc:Cl 250 #[.agg #[ag (az N),ah (nt N.natAbs)],.agg #[ag (az last),ah (nt last.natAbs)]] wc.drew λe w'=>∃r,e=.returned (.tuple #[cS Dv,r,ag true])/\(w'.frozen? ⟨g9,j*2,none⟩=false/\w'.frozen? ⟨g9,j*2+1,none⟩=false)/\Below wc.drew.heap.size wc.drew w':=
               (awj N last wc.drew WE.out WF.out jV.out ES.out).mono (λe w' ⟨r,he,hb⟩=>⟨r,by rw[he,RD],⟨(f9 w' (cM hb)).1 _,(f9 w' (cM hb)).1 _⟩,hb⟩)
              obtain⟨OL,Hdc,NS⟩:=bM f9 hdc RD;clear Ve Vf hy e9 r9 f9 hdc RD WE WF ES;have Hb:=hbz wc;go_wp2_with fail;obtain⟨ae,ai⟩:=qZ (rq.an<|qV.an<|zU.an<|Hl.an trivial);obtain⟨rq,qV,zU,Hl,_⟩:=ae;have vF:=rq.out.w1;obtain⟨Qv,Qw⟩:=qV.out.w2;obtain⟨xo,xp⟩:=zU.out.c2;obtain⟨l0,l1⟩:=Hl.out.c2;refine fx (λw'=>aJ w' go i (.slice (some ⟨g9,0,none⟩) n c9)/\aJ w' bx 0 (ag (az N))/\aJ w' bx 1 (ah (nt N.natAbs))/\aJ w' (w1.heap.size) 0 (ag (az last))/\aJ w' (w1.heap.size) 1 (ah (nt last.natAbs))) (λi=>Nat.blt i 100000) [(0,true),(1,true),(2,true),(3,true),(4,true),(5,true),(6,true),(7,false),(8,true),(9,true),(10,true),(11,true),(12,true),(13,false)] zk zk rfl zk zc ⟨vF,xo,xp,l0,l1⟩ ?_;iterate 7 (refine pT rfl rfl ?_ (by intro w' ⟨q0,q1,q2,q3,q4⟩;go_simp;try with_reducible rfl))
              refine aO rfl rfl (λK hK=>?_);go_simp;with_reducible refine(Hdc.out).mono ?_
              rintro e w5 ⟨rr,rfl,⟨z0,z1⟩,hq⟩;have ak:Bw wc w5:=by first|exact hq|exact cM hq
              replace rq:=kW rq ak;replace qV:=kW qV ak;replace zU:=kB zU ak;replace Hl:=kB Hl ak;have vF:=rq.out.w1;obtain⟨Qv,Qw⟩:=qV.out.w2;obtain⟨xo,xp⟩:=zU.out.c2;obtain⟨l0,l1⟩:=Hl.out.c2;replace Hb:=bj Hb ak;refine hK _ _ (λ_=>⟨vF,xo,xp,l0,l1⟩) ?_
              iterate 5 (refine pT rfl rfl ?_)
              refine aO rfl rfl (λK hK=>?_);go_simp;refine hK _ _ (by first|exact λh=>absurd h zd|exact λ_=>⟨vF,xo,xp,l0,l1⟩ |exact λ_=>⟨(by first|exact vF|exact aC zf vF|exact aC zf (aC zf vF) |exact aC zf (aC zf (aC zf vF))),(by first|exact xo|exact aC zf xo|exact aC zf (aC zf xo) |exact aC zf (aC zf (aC zf xo))),(by first|exact xp|exact aC zf xp|exact aC zf (aC zf xp) |exact aC zf (aC zf (aC zf xp))),(by first|exact l0|exact aC zf l0|exact aC zf (aC zf l0) |exact aC zf (aC zf (aC zf l0))),(by first|exact l1|exact aC zf l1|exact aC zf (aC zf l1) |exact aC zf (aC zf (aC zf l1)))⟩) ?_
              simp only[bH];go_wp2;go_roundw;case rel=>have h9:=(OL.out w5 Hb.out).2 j jg Dv;rw[<-NS.out]at h9;exact⟨j+1,by omega,by omega,by go_num,by rw[NS.out]at h9;exact h9.congr (λa b _ _=>by rw[<-NS.out];exact XP.out a b)⟩
              case measure=>exact bi
           . obtain rfl:j=n:=by omega
             have HT:=aj hT;clear hT;go_wp2;go_roundw;case rel=>exact⟨i+1,by omega,by omega,by go_num,HT.out.congr (λa b _ hb=>ati g k last i j a b hb)⟩
             case measure=>exact bi
        . obtain rfl:i=n:=by omega
          have hT:=EN.out.congr (λa b ha _=>atf g k last i a b ha);obtain⟨gk,ck,lk,tk,ek,rk,_⟩:=hT.row k hlt;have e1:dD g k last k k=g k k:=by unfold dD;rw[if_neg zo]
          obtain⟨LA,LB⟩:=rk k hlt;rw[e1]at LA LB;obtain⟨x,hx⟩:=au (g k k);have mY:=Cn.out;have hg2:=XA.out;have Hn:Hid (∃Q,Q+1<=2^(k+1) * (K+1)/\x.natAbs<2^Q/\∀a b,a<i->b<i->(dD g k last a b).natAbs<2^Q):=⟨2*Q+1,by have:=HQ.out;omega,by rw[<-hx];exact hg2,mO.out⟩;have OG:=Xm.out;have Oi:=Xa.out;rw[hx]at LA LB mY OG Oi;obtain⟨HE2,HBA⟩:=aH OG Oi;have hLK:w1.heap.size<wk.heap.size:=by have:=zo;omega
          obtain⟨zW,Hl⟩:=aH (hT.setLast x zo zo) hT.2.2.1;have acp:=DY i cap k (k:Int) (rfl:(some ⟨go,0,none⟩:Option Addr)=_) hlt rfl;have apK:=wX i ck k (k:Int) (rfl:(some ⟨gk,0,none⟩:Option Addr)=_) hlt rfl;rw[Nat.zero_add]at acp apK;rw[Nat.mul_one]at acp;have pI:=aj hT.2.2.2.1;have pN:Hid (aQ wr go k [.slice (some ⟨gk,0,none⟩) i ck]):=λj hj=>by
           obtain rfl:j=0:=by simp at hj;omega
           exact ek
          have kM:Hid (aQ wr gk (k*2) [ag (az x),ah (nt x.natAbs)]):=λj hj=>by
           rcases j with _|_|j
           . exact LA
           . exact LB
           . simp at hj;omega
          have XF:=aj hx;clear hT rk ek LA LB e1 hg2 OG Oi eT hx EN;go_wp2_with fail;obtain⟨ae,ai⟩:=qZ (pI.an<|pN.an<|kM.an<|Hl.an trivial);obtain⟨pI,pN,kM,Hl,_⟩:=ae;have eT:=pI.out.c1;have zz:=pN.out.w1;obtain⟨xY,xZ⟩:=kM.out.w2;obtain⟨l0,Rm,l1,fl1⟩:=Hl.out.g2;refine fx (λw'=>aJ w' (wk.heap.size) 0 (af (k:Int))/\aJ w' go k (.slice (some ⟨gk,0,none⟩) i ck)/\aJ w' gk (k*2) (ag (az x))/\aJ w' gk (k*2+1) (ah (nt x.natAbs))) (λi=>Nat.blt i 7) [(0,true),(1,true),(2,true),(3,true),(4,true),(5,true),(6,true),(7,false)] zk zk rfl zk zc ⟨eT,zz,xY,xZ⟩ ?_;iterate 7 (refine pT rfl rfl ?_ (by intro w' ⟨q0,q1,q2,q3⟩;go_simp;try with_reducible rfl))
          refine aO rfl rfl (λK hK=>?_);go_simp;refine hK _ _ (by first|exact λh=>absurd h zd|exact λ_=>⟨eT,zz,xY,xZ⟩ |exact λ_=>⟨(by first|exact eT|exact aC zf eT|exact aC zf (aC zf eT) |exact aC zf (aC zf (aC zf eT))),(by first|exact zz|exact aC zf zz|exact aC zf (aC zf zz) |exact aC zf (aC zf (aC zf zz))),(by first|exact xY|exact aC zf xY|exact aC zf (aC zf xY) |exact aC zf (aC zf (aC zf xY))),(by first|exact xZ|exact aC zf xZ|exact aC zf (aC zf xZ) |exact aC zf (aC zf (aC zf xZ)))⟩) ?_
          simp only[bH];go_wp2;go_roundw;case rel=>exact⟨k+1,dD g k last,x,_,by omega,by go_num,rfl,Bs.next zW.out.drew (λ_ _ _ _=>rfl) mY HE2.out HBA.out Hn.out⟩
          case measure=>exact bi
  . obtain rfl:k=n:=by omega
    obtain⟨q1,q2,q3,_,q5,_,Q,hQ,Ie,_⟩:=hS;have fS:=sL.out k Q (Nat.le_refl _) hQ;have hll:(nt last.natAbs).length<=1099511627776:=lv Ie zo;rw[Nat.sub_self]at q5;unfold eX at q5;obtain⟨Hr,Hl,Hq,HZ,Ki⟩:=eD q2 q3 q1 q5 hll;clear q1 q2 q3 q5 hQ Ie hll fS;have Hb:=hbz wk;obtain⟨ae,ai⟩:=qZ (Hr.an<|Hl.an trivial);have Dm:=Hq.out.2.2.1;cases t with
    | false=>
      have Hz:Hid (last=Z):=by have hz:=HZ.out;simp only[Bool.false_eq_true,if_false]at hz;exact hz
      go_wp2;have r1:wk.cell? ⟨w.heap.size,1,none⟩=some (.string ⟨#[]⟩):=ae.1.out.cell 1;have r0:wk.cell? ⟨w.heap.size,0,none⟩=some (ag false):=ae.1.out.cell 0;refine bodyPost_ret (v:=.agg #[ag (az last),ah (nt last.natAbs)]) (by simp[results,Tryz.results201,go_sem,r0,r1]) rfl ⟨by rw[Hz.out],?_⟩;exact(Dm.setCell zp _).setCell zp _
    | true=>
      have Hz:Hid (-last=Z):=by have hz:=HZ.out;simp only[if_true]at hz;exact hz
      have hneg:∀W,Cv 214 #[.agg #[ag (az last),ah (nt last.natAbs)]] W (cS (-last)):=λW=>by have:=agh (az last) (nt last.natAbs) W Ki.out;rw[fu]at this;exact this
      go_wp2_with fail;refine aK (Hb.an ae) (hneg _) λw4 ae ai=>?_;clear hneg;go_wp2;have r1:w4.cell? ⟨w.heap.size,1,none⟩=some (.string ⟨#[]⟩):=ae.2.1.out.cell 1;have r0:w4.cell? ⟨w.heap.size,0,none⟩=some (ag false):=ae.2.1.out.cell 0;refine bodyPost_ret (v:=.agg #[ag (az (-last)),ah (nt (-last).natAbs)]) (by simp[results,Tryz.results201,go_sem,r0,r1]) rfl ⟨by rw[Hz.out],?_⟩;exact((Dm.trans (ae.1.out.mono (by have:=Hq.out.2.2.2;omega))).setCell zp _).setCell zp _
def akJ (n l k:Nat)(f:Nat->Nat->Int)(last:Int)(t:Bool)(Q:Nat)(hk:k+l=n)(hl:last.natAbs<2^Q)(hf:∀a b,a<n->b<n->(f a b).natAbs<2^Q)(hex:gK n l k f last):(eX n l k f last t).natAbs<2^(2^l* (Q+1)):=by
 induction l generalizing k f last t Q with
 | zero=>
   unfold eX;have h1:2^Q<=2^(2^0* (Q+1)):=Nat.pow_le_pow_right zd zm;split
   . rw[Int.natAbs_neg];omega
   . omega
 | succ l ih=>
   unfold eX;unfold gK at hex;cases hp:qN f n k with
   |none=>exact Nat.pow_pos zd
   | some m=>
     rw[hp]at hex;simp only at hex⊢;have Be:=mI hp;obtain⟨g,hg⟩:∃g,g=bU f k (k+m):=⟨_,rfl⟩;rw[<-hg]at hex⊢;have hkn:k<n:=by omega
     have iT:∀a b,a<n->b<n->(g a b).natAbs<2^Q:=by
      intro a b ha hb;rw[hg];unfold bU;refine hf _ _ ?_ hb;split
      . omega
      . split
        . omega
        . exact ha
     have Gv:2^Q<=2^(2*Q+1):=Nat.pow_le_pow_right zd zo;have e:2^(l+1) * (Q+1)=2^l* (2*Q+1+1):=by rw[Nat.pow_succ,Nat.mul_assoc];congr 1
     rw[e];refine ih (k+1) _ _ _ (2*Q+1) zo (Nat.lt_of_lt_of_le (iT k k hkn hkn) Gv) (λa b ha hb=>?_) hex.2;unfold dD;split
     . rename_i h4
       have h5:=(Uz g k a b Q (iT a b ha hb) (iT k k hkn hkn) (iT a k ha hkn) (iT k b hkn hb)).2.2;rcases div_lt _ last _ h5 with h6|h6
       . exact h6
       . exact absurd (hex.1 a b h4.1 ha h4.2 hb) h6
     . exact Nat.lt_of_lt_of_le (iT a b ha hb) Gv
def cm (D:List (List Dyadic))(i j:Nat):Dyadic:=(D.getD i []).getD j 0
def avE (D:List (List Dyadic))(n:Nat)(g:Dyadic->Int)(hl:D.length=n)(hr:∀r∈D,r.length=n):(D.map λr=>r.map g)=eW (λi j=>g (cm D i j)) n:=by
 apply List.ext_getElem
 . simp[eW,hl]
 . intro i h1 h2;have hi:i<D.length:=by simpa using h1
   have hri:=hr _ (List.getElem_mem hi);apply List.ext_getElem
   . simp[eW,hri]
   . intro j h3 h4;have hj:j<D[i].length:=by simpa using h3
     simp[eW,cm,List.getD_eq_getElem?_getD,hi,hj]
def ZZ {D:List (List Dyadic)}{n i j:Nat}(hl:D.length=n)(hr:∀r∈D,r.length=n)(hi:i<n)(hj:j<n):∃r∈D,cm D i j∈r:=by
 have h1:i<D.length:=by omega
 have h2:j<D[i].length:=by rw[hr _ (List.getElem_mem h1)];exact hj
 refine⟨D[i],List.getElem_mem h1,?_⟩;have:cm D i j=D[i][j]:=by simp[cm,List.getD_eq_getElem?_getD,h1,h2]
 rw[this];exact List.getElem_mem h2
def QU (a:Option Addr)(cap n:Nat)(rows:List (List Raw))(B:Nat)(D:List (List Dyadic))(X:Dyadic)(w:World)(hn:1<=n)(aS:n<=4)(hL:rows.length=n)(hrow:∀r∈rows,r.length=n)(ha:Tbl w a rows)
 (hfit:∀r∈rows,∀c∈r,Fit B c) (bQ:1<=B) (hB:B<=1000000) (hT:aB w) (hD:(rows.map λr=>r.map dval)=D) (hX:dJ n (cm D)=X):
 Cv 116 #[.slice a n cap] w (.tuple #[bT X,af 0]):=by
 obtain⟨low,kq⟩:=au (nu 0 D);have hDl:D.length=n:=by rw[<-hD];simp[hL]
 have LR:∀r∈D,r.length=n:=by intro r hr;rw[<-hD]at hr;obtain⟨x,hx,rfl⟩:=List.mem_map.1 hr;simpa using hrow x hx
 have je:∀r∈D,∀d∈r,Sm B d:=by intro r hr d hd;rw[<-hD]at hr;obtain⟨x,hx,rfl⟩:=List.mem_map.1 hr;obtain⟨y,hy,rfl⟩:=List.mem_map.1 hd;exact(hfit x hx y hy).2
 have hlo:=Ul 0 D;rw[kq]at hlo;have hlb: -(B:Int)<=low:=by rw[<-kq];exact Uk 0 D _ zo (λr hr d hd=>(je r hr d hd).parts.2.1)
 obtain⟨f,hf⟩:∃f:Nat->Nat->Int,f=λi j=>rV low (cm D i j):=⟨_,rfl⟩;have rK:(D.map λr=>r.map (rV low))=eW f n:=by rw[hf];exact avE D n (rV low) hDl LR
 have hK:∀a b,a<n->b<n->(f a b).natAbs<2^(4*B):=by
  intro i j hi hj;obtain⟨r,hr,hm⟩:=ZZ hDl LR hi hj;obtain⟨s1,s2,s3⟩:=(je r hr _ hm).parts;rw[hf];show(rV low (cm D i j)).natAbs<_
  unfold rV;rw[Int.natAbs_mul,Int.natAbs_pow,show 4*B=2*B+2*B by omega,Nat.pow_add];exact Nat.lt_of_lt_of_le (Nat.mul_lt_mul_of_pos_right s1 (Nat.pow_pos zd)) (Nat.mul_le_mul_left _ (Nat.pow_le_pow_right zd zo))
 have hent:∀i j,i<n->j<n->cm D i j=Dyadic.ofIntWithPrec (f i j) (-low):=by intro i j hi hj;obtain⟨r,hr,hm⟩:=ZZ hDl LR hi hj;rw[hf];exact(auO low _ (hlo.2 r hr _ hm)).symm
 have oW:=amS n hn aS f (cm D) (-low) hent;have hex:=aab n hn aS f;have hzl:=akJ n n 0 f 1 false (4*B) zo (Nat.one_lt_two_pow zo) hK hex;obtain⟨z,hz⟩:=au (eX n n 0 f 1 false);rw[hz]at hzl oW;have adK:(nt z.natAbs).length<=34359738368:=by refine lv hzl ?_;have:2^n<=2^4:=Nat.pow_le_pow_right zd aS;have:=Nat.mul_le_mul_right (4*B+1) this;omega
 obtain⟨e,he⟩:∃e:Int,low*n=e:=⟨_,rfl⟩;have heb: -4000000<=e/\e<=4000000:=by
  have hl0:=hlo.1;have hc:n=1\/n=2\/n=3\/n=4:=by omega
  rcases hc with rfl|rfl|rfl|rfl<;>omega
 have od:dval (az z,nt z.natAbs,e)=X:=by
  rw[<-hX,oW];show Dyadic.ofIntWithPrec (iv (az z) (nt z.natAbs)) (-e)=_
  rw[fu,<-he];congr 1;rw[Int.mul_comm,Int.mul_neg]
 obtain⟨nl,hnl⟩:=au (-low);have hw1:IntKind.i64.wrap (-nl)=low:=by rw[IntKind.wrap_i64];have:=hlo.1;omega
 have hw2:IntKind.i64.wrap (low* (n:Int))=e:=by rw[he,IntKind.wrap_i64];omega
 have hm0:xg rows=0:=by
  unfold xg;rw[if_neg];rintro(h|h)
  . omega
  . rw[List.any_eq_true]at h;obtain⟨r,hr,h⟩:=h;have:=hrow r hr;simp at h;omega
 have hch:=λW=>λ(h:Tbl W a rows)=>Uo a n cap rows W hL zo h;rw[hm0]at hch;have hsc:=λW=>λ(h:Tbl W a rows) (hT:aB W)=>aft a n cap n rows B low W hL zo zo hrow h hfit zo hT (by rw[hD];exact kq);rw[hD,rK,hnl]at hsc;have hbr:=λv W base=>λ(h:jq W base n (eW f n) n v) (h2:base<=W.heap.size)=>akM base n (4*B) f v W hn aS h h2 zo hK zo;rw[hz]at hbr;have hmk:=λW=>λ(hT:aB W)=>yP (az z) (nt z.natAbs) e X od W adK zo hT;obtain⟨Ot,lO,zJ,oJ,Ha,HT⟩:=fZ hch hsc hbr hmk ha hT;clear hch hsc hbr hmk ha hT hm0 od heb he adK hz hzl hex oW hent hK rK hf hlb hlo je LR hDl kq hD hX hfit hrow hL hnl;have Hb:=hbz w;go_enter Tryz.func116,Tryz.ntmps116;go_wp2_with fail;refine cF w (Hb.an trivial) 45 [ag false,.string ⟨#[]⟩,af 0] λW aG ae ai=>?_;have HA:Hid (Tbl W a rows):=Ha.out.below ae.2.1.out;have HU:Hid (aB W):=HT.out.below ae.2.1.out;go_wp2_with fail;refine aK (HA.an<|HU.an ae) (Ot.out _ HA.out) λw1 ae ai=>?_;go_wp2_with fail;refine(lO.out _ ae.1.out ae.2.1.out).mono ?_;rintro e' w2 ⟨v,rfl,hO,hb2⟩;have HO:=aj hO;have BV:=hb2.size;clear hO;go_wp2_with fail;refine(zJ.out v w2 w1.heap.size HO.out BV).mono ?_;rintro e' w3 ⟨rfl,hb3⟩;have hb4:=hb2.trans hb3;clear hb2 hb3 HO;obtain⟨ae,ai⟩:=qX hb4 ae;skip
 clear hb4;go_wp2_with fail;refine aK ae (oJ.out _ ae.2.1.out) λw4 ae ai=>?_;go_wp2;refine dI (aN w4 (w.heap.size) 0 (bE X)) aR ?_;intro w9 hs0;have ae:=bC hs0 ae;simp only[bD,List.set]at ae;have ai:=qC ae;refine bodyPost_ret (v:=.tuple #[bT X,af 0]) (by simp[results,Tryz.results116,go_sem,ai]) rfl ⟨rfl,ae.2.2.2.1.out⟩
end Go.Proofs.YtpfgffadgkkedaaGreatDoor
namespace Go.Proofs.YtpfgffadgkkedaaGreatDoor
open Go.RowKit
def UQ {V:Int}{ts:List Trm}(h:iu V ts=0):0<=V/\V<=12/\ts.length<=4096/\∀t∈ts,(t.1.length:Int)=V/\∀c∈t.1,c.toNat<=127:=by
 unfold iu at h;by_cases h1:0<=V/\V<=12
 . rw[if_neg (λh=>h h1)]at h;by_cases h2:4096<ts.length
   . rw[if_pos h2]at h;cases h
   . rw[if_neg h2]at h;by_cases h3:(List.range ts.length).all (mU V ts)=true
     . refine⟨h1.1,h1.2,by omega,λt ht=>?_⟩;obtain⟨k,hk,rfl⟩:=List.mem_iff_getElem.1 ht;rw[List.all_eq_true]at h3;have h4:=h3 k (List.mem_range.2 hk);have e:ts.getD k default=ts[k]:=by simp[List.getD_eq_getElem?_getD,hk]
       unfold mU yh at h4;rw[e]at h4;simp only[Bool.and_eq_true]at h4;have h5:=h4.1.1.1;unfold df at h5;rw[Bool.and_eq_true,List.all_eq_true]at h5;exact⟨of_decide_eq_true h5.2,λc hc=>of_decide_eq_true (h5.1 c hc)⟩
     . rw[if_neg h3]at h;cases h
 . rw[if_pos h1]at h;cases h
def av8 (ts:List Trm)(h:∀k (h:k+1<ts.length),Op.bytesLess (ts[k]'zo).1 ts[k+1].1=true):Up ts:=by
 unfold Up;rw[List.pairwise_iff_getElem];intro i j hi hj hij;obtain⟨d,rfl⟩:∃d,j=i+1+d:=⟨j-(i+1),by omega⟩;induction d with
 |zero=>exact h i hj
 |succ d ih=>exact FT (ih zo zo) (h (i+1+d) hj)
def Nk {V:Nat}{ts:List Trm}(h:iu (V:Int) ts=0):FM V ts:=by
 obtain⟨h1,h2,h3,h4⟩:=UQ h;have hall:(List.range ts.length).all (mU (V:Int) ts)=true:=by
  unfold iu at h;rw[if_neg zo,if_neg zo]at h;by_cases h9:(List.range ts.length).all (mU (V:Int) ts)=true
  . exact h9
  . rw[if_neg h9]at h;cases h
 rw[List.all_eq_true]at hall;have hg:∀k (hk:k<ts.length),yh (V:Int) ts[k].1 ts[k].2=true/\(0<k->Op.bytesLess (ts[k-1]'zo).1 ts[k].1=true):=λk hk=>by
  have h5:=hall k (List.mem_range.2 hk);unfold mU at h5;rw[show ts.getD k default=ts[k]by simp[List.getD_eq_getElem?_getD,hk],show ts.getD (k-1) default=ts[k-1]'zo by simp[List.getD_eq_getElem?_getD,show k-1<ts.length by omega]]at h5;simp only[Bool.and_eq_true,Bool.or_eq_true,beq_iff_eq,fY]at h5;refine⟨h5.1,λh0=>?_⟩;rcases h5.2 with h6|h6
  . omega
  . exact h6
 refine⟨⟨av8 ts (λk hk=>by have:=(hg (k+1) hk).2 zo;simpa using this),λt ht=>?_⟩,λt ht=>?_,h3,by omega⟩;all_goals
  obtain⟨k,hk,rfl⟩:=List.mem_iff_getElem.1 ht
  have h5:=(hg k hk).1
  unfold yh at h5
  simp only[Bool.and_eq_true,Bool.not_eq_true',beq_iff_eq]at h5
 . exact⟨(ye _).1 h5.1.2,h5.2.symm⟩
 . exact h5.1.1
end Go.Proofs.YtpfgffadgkkedaaGreatDoor
