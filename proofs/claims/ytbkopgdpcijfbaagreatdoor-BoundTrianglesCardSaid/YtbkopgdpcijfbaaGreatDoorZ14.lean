/- Package mat: scaled. -/
import Derived.Test.YtbkopgdpcijfbaaGreatDoorZ7
import Derived.Test.YtbkopgdpcijfbaaGreatDoorZ13
import Derived.Test.YtbkopgdpcijfbaaGreatDoorZ1
import Derived.Test.YtbkopgdpcijfbaaGreatDoorZ12
import Derived.Test.YtbkopgdpcijfbaaGreatDoorZ9
import Derived.Test.YtbkopgdpcijfbaaGreatDoorZ6
import Derived.Test.YtbkopgdpcijfbaaGreatDoorZ10
set_option linter.all false
set_option maxRecDepth 100000
set_option maxHeartbeats 16000000
namespace Go.Proofs.YtbkopgdpcijfbaaGreatDoor
open Go.RowKit
attribute [local go_sem ↓] Go.wp_at_zero Go.wp_at_succ
def Tryz.aGG :(Tryz.prog.info? 28).map (λi=>(i.zero,i.size,i.bytes))=some (some (.agg #[ag false,.string (bs [])]),2,24):=by kernel_rfl
def Tryz.aGJ :(Tryz.prog.info? 261).map (λi=>(i.zero,i.size,i.bytes))=some (some (.slice none 0 0),1,24):=by kernel_rfl
def iC (z:Int):List Value:=[ag (az z),ah (nt z.natAbs)]
def zC (zs:List Int):List Value:=zs.flatMap iC
def aBL (a b:List Int):zC (a++b)=zC a++zC b:=by unfold zC;rw[List.flatMap_append]
def jS (w:World)(base n:Nat)(R:List (List Int))(k:Nat)(v:Value):Prop:=
 ∃vals:List Value,vals.length=k/\w.ownsRow base 261 1 v k vals/\(∀i (h:i<vals.length),w.ownsRow base 28 2 vals[i] n (zC (R.getD i [])))/\
  ∀i j (hi:i<vals.length) (hj:j<vals.length) g,vals[i].ownBlock=some g->vals[j].ownBlock=some g->i=j
def jS.nil (w:World)(base n:Nat)(R:List (List Int)):jS w base n R 0 (.slice none 0 0):=
 ⟨[],rfl,World.ownsRow_nil _ _ _ _,λ_ h=>absurd h (Nat.not_lt_zero _),λ_ _ h=>absurd h (Nat.not_lt_zero _)⟩
def jS.below {w w':World}{base n k:Nat}{R:List (List Int)}{v:Value}(h:jS w base n R k v)(hb:Bw w w'):jS w' base n R k v:=by obtain⟨vals,hl,ho,hi,hd⟩:=h;exact⟨vals,hl,ownsRow_below ho hb,λi h=>ownsRow_below (hi i h) hb,hd⟩
def KJ {W:World}{b1 b2 e1 e2 s1 s2 k1 k2:Nat}{v1 v2:Value}{x1 x2:List Value}(h1:W.ownsRow b1 e1 s1 v1 k1 x1)(h2:W.ownsRow b2 e2 s2 v2 k2 x2)(he:e1≠e2):v1.ownBlock=none\/v1.ownBlock≠v2.ownBlock:=by
 rcases h1.2 with⟨rfl,_⟩ |⟨g,cap,cur,rfl,_,hg,_⟩
 . exact .inl rfl
 . refine .inr λh=>?_;rcases h2.2 with⟨rfl,_⟩ |⟨g',cap',cur',rfl,_,hg',_⟩
   . simp[Value.ownBlock]at h
   . simp only[Value.ownBlock,Option.some.injEq]at h;subst h;rw[hg]at hg';simp at hg';exact he hg'.2
def CW {W:World}{base base':Nat}{e:TypeId}{size:Nat}{v:Value}{n:Nat}{xs:List Value}(h:W.ownsRow base e size v n xs)(hb:base'<=base):W.ownsRow base' e size v n xs:=by
 refine⟨h.1,?_⟩;rcases h.2 with h2|⟨g,cap,cur,h1,h2,h3⟩
 . exact .inl h2
 . exact .inr ⟨g,cap,cur,h1,Nat.le_trans hb h2,h3⟩
def jS.push {w w':World}{base n k:Nat}{R:List (List Int)}{v v' x:Value}{vals:List Value}(hl:vals.length=k)(hov:w.ownsRow base 261 1 v k vals)(hi:∀i (h:i<vals.length),w.ownsRow base 28 2 vals[i] n (zC (R.getD i [])))
 (hd:∀i j (hi:i<vals.length) (hj:j<vals.length) g,vals[i].ownBlock=some g->vals[j].ownBlock=some g->i=j)
 (hx:w.ownsRow base 28 2 x n (zC (R.getD k []))) (vh:∀g,x.ownBlock=some g->∀i (h:i<vals.length),vals[i].ownBlock≠some g)
 (ho:w'.ownsRow base 261 1 v' (k+1) (vals++[x])) (hg:w.grownBy w' v.ownBlock):jS w' base n R (k+1) v':=by
 refine⟨_,by simp[hl],ho,λi h=>?_,λi j h1 h2 g e1 e2=>?_⟩
 . by_cases hk:i<vals.length
   . rw[List.getElem_append_left hk];exact(hi i hk).kept hg (KJ (hi i hk) hov zd)
   . have hik:i=k:=by simp at h;omega
     subst hik;rw[List.getElem_append_right zo];simp only[hl,Nat.sub_self,List.getElem_cons_zero];exact hx.kept hg (KJ hx hov zd)
 . by_cases k1:i<vals.length
   . rw[List.getElem_append_left k1]at e1;by_cases k2:j<vals.length
     . rw[List.getElem_append_left k2]at e2;exact hd i j k1 k2 g e1 e2
     . have hjk:j=k:=by simp at h2;omega
       subst hjk;rw[List.getElem_append_right zo]at e2;simp only[hl,Nat.sub_self,List.getElem_cons_zero]at e2;exact absurd e1 (vh g e2 i k1)
   . have hik:i=k:=by simp at h1;omega
     subst hik;rw[List.getElem_append_right zo]at e1;simp only[hl,Nat.sub_self,List.getElem_cons_zero]at e1;by_cases k2:j<vals.length
     . rw[List.getElem_append_left k2]at e2;exact absurd e2 (vh g e1 j k2)
     . simp at h2;omega
def nj (l:Int)(ds:List Dyadic):Int:=ds.foldl (λl d=>min l (dE d)) l
def ov (l:Int)(R:List (List Dyadic)):Int:=R.foldl nj l
def um (low:Int)(d:Dyadic):Int:=dN d*2^(dE d-low).toNat
def ahr (l:Int)(ds:List Dyadic):nj l ds<=l/\∀d∈ds,nj l ds<=dE d:=by
 induction ds generalizing l with
 |nil=>exact⟨Int.le_refl _,λd h=>by cases h⟩
 | cons x xs ih=>
   have h:=ih (min l (dE x));have e:nj l (x::xs)=nj (min l (dE x)) xs:=rfl;rw[e];refine⟨by omega,λd hd=>?_⟩;rcases List.mem_cons.1 hd with rfl|hd
   . omega
   . exact h.2 d hd
def WB (l:Int)(R:List (List Dyadic)):ov l R<=l/\∀r∈R,∀d∈r,ov l R<=dE d:=by
 induction R generalizing l with
 |nil=>exact⟨Int.le_refl _,λd h=>by cases h⟩
 | cons x xs ih=>
   have h:=ih (nj l x);have h1:=ahr l x;have e:ov l (x::xs)=ov (nj l x) xs:=rfl;rw[e];refine⟨by omega,λr hr d hd=>?_⟩;rcases List.mem_cons.1 hr with rfl|hr
   . have:=h1.2 d hd;omega
   . exact h.2 r hr d hd
def ahq (l:Int)(ds:List Dyadic)(m:Int)(hl:m<=l)(h:∀d∈ds,m<=dE d):m<=nj l ds:=by
 induction ds generalizing l with
 |nil=>exact hl
 |cons x xs ih=>have hx:=h x (List.mem_cons_self ..);exact ih (min l (dE x)) zo (λd hd=>h d (List.mem_cons_of_mem _ hd))
def WA (l:Int)(R:List (List Dyadic))(m:Int)(hl:m<=l)(h:∀r∈R,∀d∈r,m<=dE d):m<=ov l R:=by
 induction R generalizing l with
 |nil=>exact hl
 |cons x xs ih=>exact ih (nj l x) (ahq l x m hl (h x (List.mem_cons_self ..))) (λr hr=>h r (List.mem_cons_of_mem _ hr))
def avJ (l:Int)(ds:List Dyadic)(k:Nat)(h:k<ds.length):nj l (ds.take (k+1))=min (nj l (ds.take k)) (dE ds[k]):=by unfold nj;rw[List.take_succ_eq_append_getElem h,List.foldl_append];rfl
def avK (l:Int)(R:List (List Dyadic))(k:Nat)(h:k<R.length):ov l (R.take (k+1))=nj (ov l (R.take k)) R[k]:=by unfold ov;rw[List.take_succ_eq_append_getElem h,List.foldl_append];rfl
def ar5 (x y z:Value)(W:World):(Instr.field 30 (.agg #[x,y,z]) 1).run Tryz.prog W=.ok z W:=by kernel_rfl
def azg (low:Int)(d:Dyadic)(h:low<=dE d):Dyadic.ofIntWithPrec (um low d) (-low)=d:=by
 have e: -low= -(dE d)+((dE d-low).toNat:Int):=by omega
 unfold um;rw[e,mz];exact(vD d).symm
def aiO (a:Option Addr)(L cap n:Nat)(rows:List (List Raw))(B:Nat)(low:Int)(w:World)(hL:rows.length=L)(hL8:L<=8)(hn8:n<=8)(hrow:∀r∈rows,r.length=n)(ha:bJ w a rows)
 (hfit:∀r∈rows,∀c∈r,Fit B c) (hB:B<=10000000) (hT:aC w) (lU:ov 0 (rows.map λr=>r.map au)=low):
 Cl 218 #[.slice a L cap] w λe w'=>∃v,e=.returned (.tuple #[v,af (-low)])/\
  jS w' w.heap.size n ((rows.map λr=>r.map au).map λr=>r.map (um low)) L v/\Bw w w':=by
 obtain⟨i0,hi,hz0,hz1,hz2⟩:=info_parts Tryz.aGG;obtain⟨j0,hj,hy0,hy1,hy2⟩:=info_parts Tryz.aGJ;obtain⟨D,hD⟩:=aB (rows.map λr=>r.map au);have hDL:D.length=L:=by rw[<-hD];simp[hL]
 have IQ:∀k (h:k<rows.length) (h':k<D.length),D[k]=rows[k].map au:=λk h h'=>by subst hD;simp
 have IP:∀r∈D,∀d∈r,-268435456<=dE d/\dE d<=268435456:=by intro r hr d hd;rw[<-hD]at hr;obtain⟨r',hr',rfl⟩:=List.mem_map.1 hr;obtain⟨x,hx,rfl⟩:=List.mem_map.1 hd;exact(((hfit r' hr' x hx).2).fit zo).1.2
 rw[hD]at lU⊢;have hlo:low<=0/\∀r∈D,∀d∈r,low<=dE d:=by rw[<-lU];exact WB 0 D
 have hlb: -268435456<=low:=by rw[<-lU];exact WA 0 D _ zd (λr hr d hd=>(IP r hr d hd).1)
 have Ap:∀k j (h:k<D.length) (h':j<=D[k].length),-268435456<=nj (ov 0 (D.take k)) (D[k].take j)/\nj (ov 0 (D.take k)) (D[k].take j)<=0:=by intro k j h h';have g1: -268435456<=ov 0 (D.take k):=WA 0 _ _ zd (λr hr d hd=>(IP r (List.mem_of_mem_take hr) d hd).1);have g2:=(WB 0 (D.take k)).1;have g3:=(ahr (ov 0 (D.take k)) (D[k].take j)).1;exact⟨ahq _ _ _ g1 (λd hd=>(IP _ (List.getElem_mem h) d (List.mem_of_mem_take hd)).1),by omega⟩
 obtain⟨Hi,eu,ey,dM,Hj,nK,rX,rY,PX,YS,HDe,amm⟩:=ie hi hz0 hz1 hz2 hj hy0 hy1 hy2 hDL IQ IP lU;obtain⟨LZ,Hlb,DK,Ha,HT,qQ,vS,HL⟩:=jZ hlo hlb Ap ha hT hrow hfit hL;have hnl:IntKind.i64.wrap (-low)= -low:=by rw[IntKind.wrap_i64];omega
 obtain⟨nl,Vt⟩:=aB (-low);obtain⟨S,hS⟩:=aB (D.map λr=>r.map (um low));have Aa:∀k (h:k<D.length),S.getD k []=D[k].map (um low):=λk h=>by subst hS;simp[h]
 rw[hS,Vt];have afL:IntKind.i64.wrap (-low)=nl:=by rw[hnl,Vt]
 obtain⟨Rv,Dh⟩:=aK afL Aa;clear hnl Vt afL hS Aa hi hz0 hz1 hz2 hj hy0 hy1 hy2 Ap hlb hlo IP IQ hDL lU ha hT hrow hfit hL hD;go_enter Tryz.func218,Tryz.ntmps218;have Hb:=hbz w;go_wp2_with fail;go_loopw[4,18] (λs4 x wr=>∃k:Nat,k<=L/\x=af (k:Int)/\s4=af (ov 0 (D.take k))/\Bw w wr) (λ_ x _=>L-(intOf x).toNat);case atStart=>exact⟨0,Nat.zero_le _,rfl,rfl,Hb.out⟩
 case round=>
  clear Hb;obtain⟨k,hk,rfl,rfl,pb⟩:=hrel;by_cases hlt:k<L
  . have hk2:k<rows.length:=by rw[HL.out];exact hlt
    have hk3:k<D.length:=by rw[PX.out];exact hlt
    obtain⟨p,jY⟩:=aB (rows[k]);obtain⟨b,o,a1,c1,hab,hc1,hat⟩:=(Ha.out.below pb).row k hk2;have tW:p.length=n:=by rw[<-jY];exact qQ.out _ (List.getElem_mem hk2)
    have tV:∀x∈p,Fit B x:=by rw[<-jY];exact vS.out _ (List.getElem_mem hk2)
    have xY:=YS.out k hk2 hk3;rw[jY]at hc1 hat xY;rw[tW]at hc1;have pE:=ER L cap k (k:Int) hab hlt rfl;rw[Nat.mul_one]at pE;have hst:=avK 0 D k hk3;have hpt:=λj (h:j<=n)=>DK.out k j hk3 (by rw[xY,List.length_map,tW];exact h);rw[xY]at hst;simp only[xY]at hpt;obtain⟨l0,hl0⟩:=aB (ov 0 (D.take k));rw[hl0]at hst⊢;simp only[hl0]at hpt;obtain⟨dL,uB,BD,bR,Hpt,bo⟩:=gU hat tW tV hst hpt pb;clear hat tW tV hst hpt pb hab jY xY hl0 hk2 hk3;obtain⟨wc,hwc⟩:∃wc,wc=wr:=⟨_,rfl⟩;subst hwc;have kD:=bo.out.size;go_wp2_with fail;go_loopw[4,24] (λs4 x wr=>∃j:Nat,j<=n/\x=af (j:Int)/\s4=af (nj l0 ((p.map au).take j))/\Bw wc wr) (λ_ x _=>n-(intOf x).toNat);case atStart=>exact⟨0,Nat.zero_le _,rfl,rfl,Below.refl _ _⟩
    case round=>
     clear hc1;obtain⟨j,hj,rfl,rfl,hb2⟩:=hrel;by_cases bA:j<n
     . have k1:j<p.length:=by rw[uB.out];exact bA
       obtain⟨sp,mp,ep,jG⟩:=sk (p[j]);have gy:=BD.out _ (List.getElem_mem k1);have hst:=avJ l0 (p.map au) j (by simpa using k1);rw[List.getElem_map,jG]at hst;rw[jG]at gy;obtain⟨X,hX⟩:=aB (au (sp,mp,ep));rw[hX]at hst;obtain⟨l1,sF⟩:=aB (nj l0 ((p.map au).take j));rw[sF]at hst⊢;obtain⟨b1,o1,dh,p0,p1,p2⟩:=(dL.out.below hb2).num j k1 jG;have afi:=mg n c1 j (j:Int) dh bA rfl;have Hp:Hid (aZ wr b1 (o1+j*3) [ag sp,ah mp,af ep]):=kE p0 p1 p2;obtain⟨sZ,HX,lH,vW,dD⟩:=gT gy.1 hX hb2 hst ((HT.out.below bo.out).below hb2);clear hb2 gy hX hst jG dh p0 p1 p2 sF;have Hb:=hbz wr;obtain⟨ae,ak⟩:=qZ (Hp.an trivial);have p1:wr.cell? ⟨b1,o1+j*3+1,none⟩=some (ah mp):=ae.1.out.cell 1 zm;have p0:wr.cell? ⟨b1,o1+j*3,none⟩=some (ag sp):=ae.1.out.cell 0 zm;have p2:wr.cell? ⟨b1,o1+j*3+2,none⟩=some (af ep):=ae.1.out.cell 2 zm;have P0:=p0;have P1:=p1;have P2:=p2;have fl:=ar5 (ag (az (dN X))) (ah (nt (dN X).natAbs)) (af (dE X));obtain⟨W4,kV,aR,ae,ak⟩:=bX wr (Hb.an ae) 30 [ag sp,ah mp,af ep];have HT:Hid (aC W4):=dD.out.below ae.2.1.out;go_wp2_with fail;refine aJ (HT.an ae) (pq sp mp ep X HX.out _ sZ.out HT.out) λw5 ae ak=>?_;go_wp2;go_roundw;case rel=>exact⟨j+1,by omega,by go_num,by rw[vW.out],aI lH.out ae.2.2.1.out⟩
       case measure=>exact bC
     . obtain rfl:j=n:=by omega
       have hpt:(p.map au).take j=p.map au:=List.take_of_length_le (by simp[uB.out]);rw[hpt];go_wp2;go_roundw;case rel=>exact⟨k+1,by omega,by go_num,by rw[bR.out],aI bo.out hb2⟩
       case measure=>exact bC
  . obtain rfl:k=L:=by omega
    have hDt:D.take k=D:=List.take_of_length_le (by rw[PX.out];exact Nat.le_refl _);rw[hDt,amm.out];have bo:=aj pb;clear pb hDt;obtain⟨wa,CB⟩:∃wa,wa=wr:=⟨_,rfl⟩;subst CB;have XV:=bo.out.size;go_wp2_with fail;go_loopw[9,37] (λs9 x wr=>∃(i:Nat) (v:Value),i<=k/\x=af (i:Int)/\v=s9/\jS wr w.heap.size n S i v/\Bw w wr) (λ_ x _=>k-(intOf x).toNat);case atStart=>exact⟨0,_,Nat.zero_le _,rfl,rfl,jS.nil _ _ _ _,bo.out⟩
    case round=>
     clear bo XV;obtain⟨i,v,hk,rfl,rfl,pv,pb⟩:=hrel;by_cases hlt:i<k
     . have hk2:i<rows.length:=by rw[HL.out];exact hlt
       have hk3:i<D.length:=by rw[PX.out];exact hlt
       obtain⟨p,jY⟩:=aB (rows[i]);obtain⟨b,o,a1,c1,hab,hc1,hat⟩:=(Ha.out.below pb).row i hk2;have tW:p.length=n:=by rw[<-jY];exact qQ.out _ (List.getElem_mem hk2)
       have tV:∀x∈p,Fit B x:=by rw[<-jY];exact vS.out _ (List.getElem_mem hk2)
       have xY:=YS.out i hk2 hk3;have yb:=Dh.out i hk3;have hpl:=LZ.out.2 _ (List.getElem_mem hk3);rw[jY]at hc1 hat xY;rw[xY]at yb hpl;rw[tW]at hc1;have pE:=ER k cap i (i:Int) hab hlt rfl;rw[Nat.mul_one]at pE;obtain⟨Z,hZ⟩:=aB ((p.map au).map (um low));rw[hZ]at yb;obtain⟨dL,uB,BD,Di,HZ,uA,bo,gX⟩:=jZ hat tW tV yb hZ hpl pb pv;clear hat tW tV yb hZ hpl pb pv hab jY xY hk2 hk3;obtain⟨wc,hwc⟩:∃wc,wc=wr:=⟨_,rfl⟩;subst hwc;have kD:=bo.out.size;go_wp2_with fail;go_loopw[12,43] (λs12 x wr=>∃(j:Nat) (v2:Value),j<=n/\x=af (j:Int)/\v2=s12/\wr.ownsRow wc.heap.size 28 2 v2 j (zC (Z.take j))/\Bw wc wr) (λ_ x _=>n-(intOf x).toNat);case atStart=>exact⟨0,_,Nat.zero_le _,rfl,rfl,World.ownsRow_nil _ _ _ _,Below.refl _ _⟩
       case round=>
        clear hc1;obtain⟨j,v2,hj,rfl,rfl,ho,hb2⟩:=hrel;by_cases bA:j<n
        . have k1:j<p.length:=by rw[uB.out];exact bA
          obtain⟨sp,mp,ep,jG⟩:=sk (p[j]);have gy:=BD.out _ (List.getElem_mem k1);rw[jG]at gy;obtain⟨X,hX⟩:=aB (au (sp,mp,ep));have hle:low<=dE X:=uA.out X (by rw[<-hX,<-jG];exact List.mem_map_of_mem (List.getElem_mem k1));have fK:Sm B X:=by rw[<-hX];exact gy.2
          have UB:=(fK.fit zo).1;have nW:(nt (dN X).natAbs).length<=268435456:=UB.1;have hXe: -268435456<=dE X/\dE X<=268435456:=UB.2;obtain⟨Y,hY⟩:=aB (um low X);have hlb:=Hlb.out;have hl0:=LZ.out.1;obtain⟨t,ht⟩:∃t:Int,dE X-low=t:=⟨_,rfl⟩;have hwr:IntKind.i64.wrap (dE X-low)=t:=by rw[IntKind.wrap_i64];omega
          have hsh:∀W,Cv 135 #[.agg #[ag (az (dN X)),ah (nt (dN X).natAbs)],af t] W (cd Y):=by intro W;have h:=FK (az (dN X)) (nt (dN X).natAbs) (dE X-low).toNat W zo zo;rw[dH,show((dE X-low).toNat:Int)=t by omega]at h;rw[<-hY];exact h
          have bR:Hid (zC (Z.take (j+1))=zC (Z.take j)++[ag (az Y),ah (nt Y.natAbs)]):=by
           show _=_
           rw[<-HZ.out,List.take_succ_eq_append_getElem (by simpa using k1),aBL];congr 1;simp only[List.getElem_map,jG,hX,hY];rfl
          obtain⟨b1,o1,dh,p0,p1,p2⟩:=(dL.out.below hb2).num j k1 jG;have afi:=mg n c1 j (j:Int) dh bA rfl;have Hp:Hid (aZ wr b1 (o1+j*3) [ag sp,ah mp,af ep]):=kE p0 p1 p2;obtain⟨sZ,HX,Ho,cX,tu,zq,dD⟩:=jL gy.1 hX ho hb2 hsh hwr ((HT.out.below bo.out).below hb2);have yO:=hb2.size;clear ho hb2 gy hX jG dh p0 p1 p2 hle fK UB nW hXe hY hlb hl0 ht hsh hwr;have Hb:=hbz wr;obtain⟨ae,ak⟩:=qZ (Hp.an trivial);have p1:wr.cell? ⟨b1,o1+j*3+1,none⟩=some (ah mp):=ae.1.out.cell 1 zm;have p0:wr.cell? ⟨b1,o1+j*3,none⟩=some (ag sp):=ae.1.out.cell 0 zm;have p2:wr.cell? ⟨b1,o1+j*3+2,none⟩=some (af ep):=ae.1.out.cell 2 zm;have P0:=p0;have P1:=p1;have P2:=p2;obtain⟨W4,kV,aR,ae,ak⟩:=bX wr (Hb.an ae) 30 [ag sp,ah mp,af ep];have HT:Hid (aC W4):=dD.out.below ae.2.1.out;go_wp2_with fail;refine aJ (HT.an ae) (pq sp mp ep X HX.out _ sZ.out HT.out) λw5 ae ak=>?_;obtain⟨W6,pu,aR,ae,ak⟩:=bX w5 ae 30 (bG X);have hwr:=zq.out;go_wp2_with fail;refine aJ ae (tu.out _) λw7 ae ak=>?_;clear hwr;obtain⟨W8,Ux,aR,ae,ak⟩:=bX w7 ae 28 [ag (az Y),ah (nt Y.natAbs)];have bW:=ownsRow_below Ho.out ae.2.2.2.2.1.out;have jq:=ae.2.2.2.2.1.out.size;have hnews:=ji ae.1.out;skip
          go_wp2_with (at_builtin;refine wpList_append_own_at _ rfl _ _ 261 rfl wc.heap.size 28 i0 _ 2 24 Tryz.underlying261 Hi.out eu.out ey.out dM.out rfl zd v2 j (zC (Z.take j)) rfl bW ⟨w7.heap.size,0,none⟩ 1 1 [ag (az Y),ah (nt Y.natAbs)] rfl rfl hnews zy zx zo zo ?_;intro v' w9 na Og _ _;obtain⟨g',rp,rfl⟩:=ownsRow_succ na);go_roundw;case rel=>
           refine⟨j+1,_,by omega,by go_num,rfl,?_,?_⟩
           . rw[bR.out];exact na
           . exact(aI cX.out ae.2.2.2.2.1.out).grown Og zo (λj e=>eo bW j e)
          case measure=>exact bC
        . obtain rfl:j=n:=by omega
          have rA:Z.take j=Z:=List.take_of_length_le (by rw[<-HZ.out];simp[uB.out]);rw[rA]at ho;obtain⟨a2,cap2,rfl,_,_⟩:=dZ ho;have gz:=ho.lt;obtain⟨vals,hvl,hov,pK,JZ⟩:=gX.out;have vh:∀g,(Value.slice a2 j cap2).ownBlock=some g->∀m (h:m<vals.length),vals[m].ownBlock≠some g:=by intro g h1 m h2 h3;have:=(gz g h1).1;have:=((pK m h2).lt g h3).2;omega
          obtain⟨QZ,uE,xK,eN,cX,Sg,Ho⟩:=jL vh hvl pK hov hb2 JZ ho;have Hb:=hbz wr;have yO:=hb2.size;clear vh hvl hov pK hb2 JZ gz rA ho bA hj;obtain⟨W6,pu,aR,ae,ak⟩:=bX wr (Hb.an trivial) 261 [.slice a2 j cap2];have TR:=aI cX.out ae.2.1.out;have bW:=ownsRow_below eN.out TR;have jq:=ae.2.1.out.size;have hnews:∀i u,([.slice a2 j cap2]:List Value)[i]?=some u->W6.cell? ((⟨wr.heap.size,0,none⟩:Addr).add i)=some u:=ji ae.1.out;skip
          go_wp2_with (at_builtin;refine wpList_append_own_at _ rfl _ _ 251 rfl w.heap.size 261 j0 _ 1 24 Tryz.underlying251 Hj.out nK.out rX.out rY.out rfl zd v i vals rfl bW ⟨wr.heap.size,0,none⟩ 1 1 [.slice a2 j cap2] rfl rfl hnews zy zx zo zo ?_;intro v' w7 eQ fL _ _;obtain⟨g',rp,rfl⟩:=ownsRow_succ eQ);go_roundw;case rel=>
           refine⟨i+1,_,by omega,by go_num,rfl,?_,?_⟩
           . refine jS.push (w:=W6) uE.out bW (λm h=>ownsRow_below (xK.out m h) TR) Sg.out ?_ QZ.out eQ fL;rw[Di.out];exact CW (ownsRow_below Ho.out ae.2.1.out) zo
           . exact(aI bo.out TR).grown fL zo (λj e=>eo bW j e)
          case measure=>exact bC
     . obtain rfl:i=k:=by omega
       obtain⟨bo,gX⟩:=aK pb pv;clear pb pv;have hnl:=Rv.out;go_wp2;refine bodyPost_ret (v:=.tuple #[v,af nl]) (by simp[results,Tryz.results218,go_sem]) rfl ⟨v,rfl,gX.out,bo.out⟩
end Go.Proofs.YtbkopgdpcijfbaaGreatDoor
namespace Go.Proofs.YtbkopgdpcijfbaaGreatDoor
open Go.RowKit
def oD {w:World}{base:Nat}{e:TypeId}{size n cap g:Nat}{xs:List Value}(h:w.ownsRow base e size (.slice (some ⟨g,0,none⟩) n cap) n xs)(j:Nat)(hj:j<xs.length):w.cell? ⟨g,j,none⟩=some xs[j]:=by
 rcases h.2 with⟨h1,_⟩ |⟨g',cap',cur,h1,_,hg,_,_,_,hx⟩
 . simp at h1
 . simp only[Value.slice.injEq,Option.some.injEq,Addr.mk.injEq,and_true,true_and]at h1;obtain⟨rfl,rfl⟩:=h1;have h2:cur.toList.take (n*size)=xs:=hx;have h3:cur.toList[j]?=some xs[j]:=by rw[<-List.getElem?_eq_getElem hj];simp only[<-h2];rw[List.getElem?_take];rw[<-h2,List.length_take]at hj;rw[if_pos (Nat.lt_of_lt_of_le hj (Nat.min_le_left _ _))]
   have h4:ar w g e cur.toList:=by unfold ar;simpa using hg
   rw[h4.cell];exact h3
def oF {w:World}{base:Nat}{e:TypeId}{size n cap g:Nat}{xs:List Value}(h:w.ownsRow base e size (.slice (some ⟨g,0,none⟩) n cap) n xs)(j:Nat)(u:Value):(w.setCell ⟨g,j,none⟩ u).ownsRow base e size (.slice (some ⟨g,0,none⟩) n cap) n (xs.set j u):=by
 refine⟨by rw[List.length_set];exact h.1,?_⟩;rcases h.2 with⟨h1,_⟩ |⟨g',cap',cur,h1,hb,hg,h4,h5,h6,hx⟩
 . simp at h1
 . simp only[Value.slice.injEq,Option.some.injEq,Addr.mk.injEq,and_true,true_and]at h1;obtain⟨rfl,rfl⟩:=h1;refine .inr ⟨g,cap,cur.setIfInBounds j u,rfl,hb,?_,h4,h5,by simpa using h6,?_⟩
   . simp[World.setCell,Array.getElem?_modify,hg]
   . rw[<-hx];simp[List.take_set]
def aBN (zs:List Int):(zC zs).length=zs.length*2:=kQ iC 2 (λ_=>rfl) zs
def aBM (zs:List Int)(j:Nat)(hj:j<zs.length):(zC zs)[j*2]?=some (ag (az zs[j]))/\(zC zs)[j*2+1]?=some (ah (nt zs[j].natAbs)):=by
 induction zs generalizing j with
 |nil=>simp at hj
 | cons z zs ih=>
   have e:zC (z::zs)=ag (az z)::ah (nt z.natAbs)::zC zs:=rfl;rw[e];cases j with
   |zero=>exact⟨rfl,rfl⟩
   |succ j=>have:=ih j (by simpa using hj);rw[show(j+1) *2=j*2+1+1 by omega];simpa using this
def aBO (zs:List Int)(j:Nat)(hj:j<zs.length)(y:Int):((zC zs).set (j*2) (ag (az y))).set (j*2+1) (ah (nt y.natAbs))=zC (zs.set j y):=by
 induction zs generalizing j with
 |nil=>simp at hj
 | cons z zs ih=>
   have e:zC (z::zs)=ag (az z)::ah (nt z.natAbs)::zC zs:=rfl;rw[e];cases j with
   |zero=>rfl
   |succ j=>have:=ih j (by simpa using hj);rw[show(j+1) *2=j*2+1+1 by omega];simp only[List.set_cons_succ];rw[this];rfl
def jS.num {w:World}{base n L:Nat}{R:List (List Int)}{v:Value}(h:jS w base n R L v)(i j:Nat)(hi:i<L)(hj:j<n)(hR:R.length=L)(hr:(R.getD i []).length=n):
 ∃go cap g c,v=.slice (some ⟨go,0,none⟩) L cap/\base<=go/\base<=g/\g≠go/\w.cell? ⟨go,i,none⟩=some (.slice (some ⟨g,0,none⟩) n c)/\
  w.cell? ⟨g,j*2,none⟩=some (ag (az ((R.getD i []).getD j 0)))/\w.cell? ⟨g,j*2+1,none⟩=some (ah (nt ((R.getD i []).getD j 0).natAbs))/\
  ∀y:Int,jS ((w.setCell ⟨g,j*2,none⟩ (ag (az y))).setCell ⟨g,j*2+1,none⟩ (ah (nt y.natAbs))) base n (R.set i ((R.getD i []).set j y)) L v:=by
 obtain⟨vals,hl,ho,hv,hd⟩:=h;have hi2:i<vals.length:=by omega
 have hrow:=hv i hi2;have hxl:(zC (R.getD i [])).length=n*2:=by rw[aBN,hr]
 obtain⟨a0,cap,rfl,_,_⟩:=dZ ho;obtain⟨a1,c,e1,_,hab⟩:=dZ hrow;rw[e1]at hrow;rcases ho.2 with⟨h1,_⟩ |⟨go,cap',cur,h1,yh,hgo,_⟩
 . simp at h1;omega
 simp only[Value.slice.injEq,true_and]at h1;obtain⟨rfl,rfl⟩:=h1;rcases hrow.2 with⟨h1,_⟩ |⟨g,c',cur',h1,hbg,hgg,_⟩
 . simp at h1;omega
 simp only[Value.slice.injEq,true_and]at h1;obtain⟨rfl,rfl⟩:=h1;have hne:g≠go:=by rintro rfl;rw[hgo]at hgg;simp at hgg
 have hat:=aBM (R.getD i []) j zo;have hg0:(R.getD i []).getD j 0=(R.getD i [])[j]'zo:=by rw[List.getD_eq_getElem?_getD,List.getElem?_eq_getElem zo];rfl
 have hc0:=oD hrow (j*2) zo;have hc1:=oD hrow (j*2+1) zo;rw[<-List.getElem?_eq_getElem]at hc0 hc1;rw[hat.1]at hc0;rw[hat.2]at hc1;refine⟨go,cap,g,c,rfl,yh,hbg,hne,?_,by rw[hg0];exact hc0,by rw[hg0];exact hc1,λy=>?_⟩
 . rw[oD ho i zo,e1]
 . refine⟨vals,hl,?_,λm hm=>?_,hd⟩
   . exact ownsRow_setCell_other (ownsRow_setCell_other ho (by simpa[Value.ownBlock]using hne.symm) _) (by simpa[Value.ownBlock]using hne.symm) _
   . by_cases kw:m=i
     . subst kw;have hs:(R.set m ((R.getD m []).set j y)).getD m []=(R.getD m []).set j y:=by rw[List.getD_eq_getElem?_getD,List.getElem?_set_self zo];rfl
       rw[hs,e1,<-aBO _ _ zo];exact oF (oF hrow _ _) _ _
     . have hs:(R.set i ((R.getD i []).set j y)).getD m []=R.getD m []:=by rw[List.getD_eq_getElem?_getD,List.getElem?_set_ne (λe=>kw e.symm),<-List.getD_eq_getElem?_getD]
       rw[hs];have hno:vals[m].ownBlock≠some g:=λe=>kw (hd m i hm hi2 g e (by rw[e1];rfl));exact ownsRow_setCell_other (ownsRow_setCell_other (hv m hm) hno _) hno _
def swp (i m k:Nat):Nat:=if k=i then m else if k=m then i else k
def az9 {i m a b:Nat}(h:swp i m a=swp i m b):a=b:=by
 unfold swp at h;repeat' split at h
 all_goals omega
def PM {i m k L:Nat}(hi:i<L)(hm:m<L)(hk:k<L):swp i m k<L:=by
 unfold swp;repeat' split
 all_goals omega
def XC {α:Type}(l:List α)(d:α)(i m:Nat)(hi:i<l.length)(hm:m<l.length)(k:Nat)(hk:k<l.length):((l.set i (l.getD m d)).set m (l.getD i d)).getD k d=l.getD (swp i m k) d:=by
 unfold swp;by_cases h1:k=m
 . subst h1;rw[List.getD_eq_getElem?_getD,List.getElem?_set_self (by simpa using hk)];by_cases h2:k=i
   . subst h2;simp
   . simp[h2]
 . rw[List.getD_eq_getElem?_getD,List.getElem?_set_ne (λe=>h1 e.symm)];by_cases h2:k=i
   . subst h2;rw[List.getElem?_set_self (by simpa using hk)];simp
   . rw[List.getElem?_set_ne (λe=>h2 e.symm)];simp[h1,h2]
def jS.swap {w:World}{base n L go cap:Nat}{R:List (List Int)}(h:jS w base n R L (.slice (some ⟨go,0,none⟩) L cap))(i m:Nat)(hi:i<L)(hm:m<L)(hR:R.length=L):
 ∃x y,w.cell? ⟨go,i,none⟩=some x/\w.cell? ⟨go,m,none⟩=some y/\jS ((w.setCell ⟨go,i,none⟩ y).setCell ⟨go,m,none⟩ x) base n ((R.set i (R.getD m [])).set m (R.getD i [])) L (.slice (some ⟨go,0,none⟩) L cap):=by
 obtain⟨vals,hl,ho,hv,hd⟩:=h;have hi2:i<vals.length:=by omega
 have hm2:m<vals.length:=by omega
 have hgo:∀k (hk:k<vals.length),vals[k].ownBlock≠some go\/vals[k].ownBlock=none:=by
  intro k hk;rcases KJ (hv k hk) ho zd with e|e
  . exact .inr e
  . exact .inl e
 have hel:∀k (hk:k<vals.length),((vals.set i vals[m]).set m vals[i])[k]'(by simpa using hk)=vals[swp i m k]'(PM hi2 hm2 hk):=by intro k hk;have:=XC vals (ag false) i m hi2 hm2 k hk;have hs:=PM hi2 hm2 hk;simpa[List.getD_eq_getElem?_getD,List.getElem?_eq_getElem,hi2,hm2,hk,hs]using this
 refine⟨vals[i],vals[m],oD ho i zo,oD ho m zo,_,by simp[hl],oF (oF ho i _) m _,λk hk=>?_,λa b ha hb g e1 e2=>?_⟩
 . have hk2:k<vals.length:=by simpa using hk
   have hs:=PM hi2 hm2 hk2;rw[hel k hk2,XC R [] i m zo zo k zo];have hno:vals[swp i m k].ownBlock≠some go:=by
    rcases hgo _ hs with e|e
    . exact e
    . rw[e];simp
   exact ownsRow_setCell_other (ownsRow_setCell_other (hv _ hs) hno _) hno _
 . have ha2:a<vals.length:=by simpa using ha
   have hb2:b<vals.length:=by simpa using hb
   rw[hel a ha2]at e1;rw[hel b hb2]at e2;exact az9 (hd _ _ _ _ g e1 e2)
end Go.Proofs.YtbkopgdpcijfbaaGreatDoor
namespace Go.Proofs.YtbkopgdpcijfbaaGreatDoor
open Go.RowKit
attribute [local go_sem ↓] Go.wp_at_zero Go.wp_at_succ
def ol {α:Type}(p:α->Bool):List α->Nat->Int
 |[],_=>-1
 |v::l,k=>if p v then(k:Int)else ol p l (k+1)
def agX {α:Type}(p:α->Bool)(l:List α)(k n:Nat)(h:n<l.length):ol p (l.drop n) k=if p l[n]then(k:Int)else ol p (l.drop (n+1)) (k+1):=by rw[List.drop_eq_getElem_cons h];rfl
def agW {α:Type}(p:α->Bool)(l:List α)(k:Nat):decide (0<=ol p l k)=l.any p:=by
 induction l generalizing k with
 |nil=>rfl
 | cons v l ih=>
   unfold ol;rw[List.any_cons];by_cases h:p v=true
   . rw[if_pos h,h,Bool.true_or];simp
   . rw[if_neg h,ih];simp[h]
def agY {α:Type}(p:α->Bool)(l:List α)(k:Nat):(ol p l k= -1/\∀x∈l,p x=false)\/∃i,∃h:i<l.length,ol p l k=((k+i:Nat):Int)/\p l[i]=true/\∀j (hj:j<i),p (l[j]'zo)=false:=by
 induction l generalizing k with
 |nil=>exact .inl ⟨rfl,λx hx=>by cases hx⟩
 | cons v l ih=>
   unfold ol;by_cases h:p v=true
   . rw[if_pos h];exact .inr ⟨0,by simp,rfl,h,λj hj=>by omega⟩
   . rw[if_neg h];rcases ih (k+1)with⟨h1,h2⟩ |⟨i,h1,h2,h3,h4⟩
     . exact .inl ⟨h1,λx hx=>by rcases List.mem_cons.1 hx with rfl|hx;simpa using h;exact h2 x hx⟩
     . refine .inr ⟨i+1,by simpa using h1,by rw[h2];congr 1;omega,by simpa using h3,λj hj=>?_⟩;cases j with
       |zero=>simpa using h
       |succ j=>simpa using h4 j zo
structure Pv where
 V:Int
 a:Option Addr
 n:Nat
 c:Nat
def mD (p:Pv):List Value:=[af p.V,.slice p.a p.n p.c]
def At.aGv {w:World}{a:Option Addr}{ps:List Pv}(h:At w a (ps.flatMap mD))(k:Nat)(hk:k<ps.length){V:Int}{a':Option Addr}{n c:Nat}(hx:ps[k]=⟨V,a',n,c⟩):
 ∃b o,a=some ⟨b,o,none⟩/\aZ w b (o+k*2) [af V,.slice a' n c]:=by
 obtain⟨b,o,hab,hcs⟩:=h.elem (f:=mD) (sz:=2) (λ_=>rfl) zd k hk;refine⟨b,o,hab,λj hj=>?_⟩;have:=hcs j hj;rw[hx]at this;rw[this];unfold mD;rw[List.getElem?_eq_getElem (by simpa using hj)]
def Wp (a:Option Addr)(n cap:Nat)(vals:List Trm)(gf:Nat)(lb:Array Value)(p:Trm->Bool)(w:World)(hn:vals.length=n)(hl:n<=1099511627776)(ha:At w a (vals.flatMap aY))
 (eg:∀args w,(callFunc gf args).run Tryz.prog w=.ok (.enter gf args) w)
 (hcl:∀x∈vals,∀W,Bw w W->Cl gf (#[.agg #[ah x.1,ag x.2.1,ah x.2.2.1,af x.2.2.2]]++lb) W λe w'=>e=.returned (ag (p x))/\Bw W w'):
 Cv 289 #[.slice a n cap,.func (.func gf) #[] lb] w (af (ol p vals 0)):=by
 obtain⟨Hn,Ha,fJ,mF⟩:=dv hn ha hcl eg;clear hn ha hcl eg;have Hb:=hbz w;go_enter Tryz.func289,Tryz.ntmps289;go_wp2_with fail;go_loopw[5,8] (λ_ i wr=>∃k:Nat,k<=n/\i=af (k:Int)/\ol p vals 0=ol p (vals.drop k) k/\Bw w wr) (λ_ i _=>n-(intOf i).toNat);case atStart=>exact⟨0,Nat.zero_le _,rfl,rfl,Hb.out⟩
 case round=>
  clear Hb;obtain⟨k,hk,rfl,iJ,pb⟩:=hrel;obtain⟨qw,Hb⟩:=aK iJ pb;clear iJ pb;by_cases hlt:k<n
  . have bA:k<vals.length:=by rw[Hn.out];exact hlt
    obtain⟨l,s,m,e,hx⟩:∃l s m e,vals[k]=(l,s,m,e):=⟨_,_,_,_,rfl⟩;obtain⟨b,o,hab,eG⟩:=(Ha.out.below Hb.out).term k bA hx;obtain⟨q0,q1,q2,q3⟩:=eG.w4;have bD:=sI n cap k (k:Int) hab hlt rfl;have hcall:=fJ.out _ (List.getElem_mem bA) wr Hb.out;have hstep:=agX p vals k k bA;rw[<-qw.out]at hstep;rw[hx]at hcall hstep;obtain⟨jf,lK⟩:=aK hstep hcall;have oP:=mF.out;clear eG hab hx hstep hcall;go_wp2_with fail;refine lK.out.mono ?_;rintro e9 w1 ⟨rfl,hb1⟩;replace Hb:=aj (aI Hb.out hb1);clear hb1 q0 q1 q2 q3 bD oP;obtain⟨t,ht⟩:=aB (p (l,s,m,e));rw[ht]at jf⊢;clear ht;cases t with
    |true=>go_wp2;refine bodyPost_ret (results_tmp rfl _ _ _) rfl ⟨?_,Hb.out⟩;have h:=jf.out;rw[if_pos (by trivial)]at h;rw[h];rfl
    | false=>
      go_wp2;go_roundw;case rel=>exact⟨k+1,by omega,by go_num,by have h:=jf.out;rw[if_neg zd]at h;exact h,Hb.out⟩
      case measure=>exact bC
  . obtain rfl:k=n:=by omega
    go_wp2;refine bodyPost_ret (results_tmp rfl _ _ _) rfl ⟨?_,Hb.out⟩;have h:=qw.out;rw[List.drop_of_length_le (by rw[Hn.out];exact Nat.le_refl _)]at h;rw[h];rfl
def aqx (a:Option Addr)(n cap:Nat)(vals:List Trm)(gf:Nat)(lb:Array Value)(p:Trm->Bool)(w:World)(hn:vals.length=n)(hl:n<=1099511627776)(ha:At w a (vals.flatMap aY))
 (eg:∀args w,(callFunc gf args).run Tryz.prog w=.ok (.enter gf args) w)
 (hcl:∀x∈vals,∀W,Bw w W->Cl gf (#[.agg #[ah x.1,ag x.2.1,ah x.2.2.1,af x.2.2.2]]++lb) W λe w'=>e=.returned (ag (p x))/\Bw W w'):
 Cv 248 #[.slice a n cap,.func (.func gf) #[] lb] w (ag (vals.any p)):=by
 have h1:=Wp a n cap vals gf lb p w hn hl ha eg hcl;rw[<-agW p vals 0];generalize ol p vals 0=i at*;have H1:=aj h1;clear h1 hcl eg ha hn;have Hb:=hbz w;go_enter Tryz.func248,Tryz.ntmps248;go_wp2_with fail;refine aJ (Hb.an trivial) (H1.out) λw1 ae ak=>?_;have Hb:=ae.1;go_wp2;exact bodyPost_ret (v:=ag (decide (0<=i))) (by simp[results,Tryz.results248,go_sem,ak]) rfl ⟨rfl,df⟩
def auJ (a:Option Addr)(n cap:Nat)(vals:List Pv)(gf:Nat)(lb:Array Value)(p:Pv->Bool)(w:World)(hn:vals.length=n)(hl:n<=1099511627776)(ha:At w a (vals.flatMap mD))
 (eg:∀args w,(callFunc gf args).run Tryz.prog w=.ok (.enter gf args) w)
 (hcl:∀x∈vals,∀W,Bw w W->Cl gf (#[.agg #[af x.V,.slice x.a x.n x.c]]++lb) W λe w'=>e=.returned (ag (p x))/\Bw W w'):
 Cv 241 #[.slice a n cap,.func (.func gf) #[] lb] w (af (ol p vals 0)):=by
 obtain⟨Hn,Ha,fJ,mF⟩:=dv hn ha hcl eg;clear hn ha hcl eg;have Hb:=hbz w;go_enter Tryz.func241,Tryz.ntmps241;go_wp2_with fail;go_loopw[5,8] (λ_ i wr=>∃k:Nat,k<=n/\i=af (k:Int)/\ol p vals 0=ol p (vals.drop k) k/\Bw w wr) (λ_ i _=>n-(intOf i).toNat);case atStart=>exact⟨0,Nat.zero_le _,rfl,rfl,Hb.out⟩
 case round=>
  clear Hb;obtain⟨k,hk,rfl,iJ,pb⟩:=hrel;obtain⟨qw,Hb⟩:=aK iJ pb;clear iJ pb;by_cases hlt:k<n
  . have bA:k<vals.length:=by rw[Hn.out];exact hlt
    obtain⟨V,a1,n1,c1,hx⟩:∃V a1 n1 c1,vals[k]=⟨V,a1,n1,c1⟩:=⟨_,_,_,_,rfl⟩;obtain⟨b,o,hab,eG⟩:=(Ha.out.below Hb.out).aGv k bA hx;obtain⟨q0,q1⟩:=eG.w2;have bD:=CC n cap k (k:Int) hab hlt rfl;have hcall:=fJ.out _ (List.getElem_mem bA) wr Hb.out;have hstep:=agX p vals k k bA;rw[<-qw.out]at hstep;rw[hx]at hcall hstep;obtain⟨jf,lK⟩:=aK hstep hcall;have oP:=mF.out;clear eG hab hx hstep hcall;go_wp2_with fail;refine lK.out.mono ?_;rintro e9 w1 ⟨rfl,hb1⟩;replace Hb:=aj (aI Hb.out hb1);clear hb1 q0 q1 bD oP;obtain⟨t,ht⟩:=aB (p ⟨V,a1,n1,c1⟩);rw[ht]at jf⊢;clear ht;cases t with
    |true=>go_wp2;refine bodyPost_ret (results_tmp rfl _ _ _) rfl ⟨?_,Hb.out⟩;have h:=jf.out;rw[if_pos (by trivial)]at h;rw[h];rfl
    | false=>
      go_wp2;go_roundw;case rel=>exact⟨k+1,by omega,by go_num,by have h:=jf.out;rw[if_neg zd]at h;exact h,Hb.out⟩
      case measure=>exact bC
  . obtain rfl:k=n:=by omega
    go_wp2;refine bodyPost_ret (results_tmp rfl _ _ _) rfl ⟨?_,Hb.out⟩;have h:=qw.out;rw[List.drop_of_length_le (by rw[Hn.out];exact Nat.le_refl _)]at h;rw[h];rfl
def aqy (a:Option Addr)(n cap:Nat)(vals:List Pv)(gf:Nat)(lb:Array Value)(p:Pv->Bool)(w:World)(hn:vals.length=n)(hl:n<=1099511627776)(ha:At w a (vals.flatMap mD))
 (eg:∀args w,(callFunc gf args).run Tryz.prog w=.ok (.enter gf args) w)
 (hcl:∀x∈vals,∀W,Bw w W->Cl gf (#[.agg #[af x.V,.slice x.a x.n x.c]]++lb) W λe w'=>e=.returned (ag (p x))/\Bw W w'):
 Cv 177 #[.slice a n cap,.func (.func gf) #[] lb] w (ag (vals.any p)):=by
 have h1:=auJ a n cap vals gf lb p w hn hl ha eg hcl;rw[<-agW p vals 0];generalize ol p vals 0=i at*;have H1:=aj h1;clear h1 hcl eg ha hn;have Hb:=hbz w;go_enter Tryz.func177,Tryz.ntmps177;go_wp2_with fail;refine aJ (Hb.an trivial) (H1.out) λw1 ae ak=>?_;have Hb:=ae.1;go_wp2;exact bodyPost_ret (v:=ag (decide (0<=i))) (by simp[results,Tryz.results177,go_sem,ak]) rfl ⟨rfl,df⟩
def ah7 (X:Dyadic)(s:Bool)(m:List UInt8)(e:Int)(b:Bool)(h:(canon X==(s,m,e))= !b)(w':World):
 (if az (dN X)=s then if(bs (nt (dN X).natAbs)).toList=(bs m).toList then if dE X=e then Result.ok (Next.value (Value.bool false)) w' else Result.ok (Next.value (Value.bool true)) w' else Result.ok (Next.value (Value.bool true)) w' else Result.ok (Next.value (Value.bool true)) w')=Result.ok (Next.value (Value.bool b)) w':=by
 have ht:∀x y:List UInt8,(bs x).toList=(bs y).toList↔x=y:=λx y=>by rw[jT,jT]
 have hc:(canon X==(s,m,e))=decide (az (dN X)=s/\nt (dN X).natAbs=m/\dE X=e):=by rw[Bool.eq_iff_iff];simp[canon]
 rw[hc]at h;simp only[ht];cases b with
 | false=>
   have h2:az (dN X)=s/\nt (dN X).natAbs=m/\dE X=e:=by simpa using h
   rw[if_pos h2.1,if_pos h2.2.1,if_pos h2.2.2]
 | true=>
   have h2:¬(az (dN X)=s/\nt (dN X).natAbs=m/\dE X=e):=by intro h3;rw[decide_eq_true h3]at h;cases h
   by_cases h3:az (dN X)=s
   . rw[if_pos h3];by_cases h4:nt (dN X).natAbs=m
     . rw[if_pos h4,if_neg (λh5=>h2 ⟨h3,h4,h5⟩)]
     . rw[if_neg h4]
   . rw[if_neg h3]
def Pq (V:Int)(a:Option Addr)(cap N:Nat)(ts:List Trm)(w:World)(hN:ts.length=N)(hn:N<=1048576)(ha:At w a (ts.flatMap aY))(hl:∀t∈ts,t.1.length<=9223372036854775807/\Ok t.2)(hT:aC w):
 Cv 49 #[.agg #[af V,.slice a N cap]] w (af (mC V ts)):=by
 obtain⟨Ha,Hl,HN,eK⟩:=dv ha hl hN hT;obtain⟨R,hR⟩:=aB (mC V ts);unfold mC at hR;rw[hN]at hR;rw[show mC V ts=R by unfold mC;rw[hN];exact hR];have HR:=aj hR;clear ha hl hN hR hT;obtain⟨W,cE,ae,ak⟩:=il w 24 [af V,.slice a N cap];go_enter Tryz.func49,Tryz.ntmps49;go_wp2_with fail;refine aJ ae (Na V _) λw1 ae ak=>?_;by_cases h1:0<=V/\V<=12
 . by_cases h2:4096<N
   . have h3:(4096:Int)<(N:Int):=by omega
     have hR:=HR.out;rw[if_neg (λh=>h h1),if_pos h2]at hR;clear HR;subst hR;have Hb:=ae.1;go_wp2;exact bodyPost_ret (v:=af 3) (by simp[results,Tryz.results49,go_sem,ak]) rfl ⟨rfl,df⟩
   . have h3:¬(4096:Int)<(N:Int):=by omega
     have h3d:decide ((4096:Int)<(N:Int))=false:=by simp;omega
     have hR:Hid ((if(List.range N).all (nS V ts)then(0:Int)else 1)=R):=by
      show _=_
      have hR:=HR.out;rw[if_neg (λh=>h h1),if_neg h2]at hR;exact hR
     clear HR;obtain⟨cj,rU⟩:=aK ae.1.out ae.2.1.out;skip
     have p0:w1.cell? ⟨w.heap.size,0,none⟩=some (af V):=rU.out.cell 0;have p1:w1.cell? ⟨w.heap.size,1,none⟩=some (.slice a N cap):=rU.out.cell 1;go_wp2_with fail;go_loopw[16] (λx wr=>∃k:Nat,k<=N/\x=af (k:Int)/\(List.range k).all (nS V ts)=true/\ar wr w.heap.size 24 [af V,.slice a N cap]/\Bw w wr) (λx _=>N-(intOf x).toNat);case atStart=>exact⟨0,Nat.zero_le _,rfl,rfl,rU.out,cj.out⟩
     case round=>
      clear cj rU p0 p1;obtain⟨k,hk,rfl,pD,jY,pb⟩:=hrel;by_cases hlt:k<N
      . have hk2:k<ts.length:=by rw[HN.out];exact hlt
        obtain⟨l,s,m,e,hx⟩:∃l s m e,ts[k]=(l,s,m,e):=⟨_,_,_,_,rfl⟩;obtain⟨b,o,hab,eG⟩:=(Ha.out.below pb).term k hk2 hx;have hl2:l.length<=9223372036854775807/\Ok (s,m,e):=by have:=Hl.out _ (List.getElem_mem hk2);rw[hx]at this;exact this
        have IG:ts.getD k default=(l,s,m,e):=by simp[hk2,hx]
        have hgn:(List.range (k+1)).all (nS V ts)=nS V ts k:=by rw[List.range_succ,List.all_append,pD];simp
        have hbad:nS V ts k=false->R=1:=by intro h;rw[<-hR.out,if_neg];intro h5;rw[List.all_eq_true]at h5;have:=h5 k (List.mem_range.2 hlt);rw[h]at this;cases this
        have yj:nS V ts k=(zR V l (s,m,e)&&(k==0||Op.bytesLess (bs (ts.getD (k-1) default).1).toList (bs l).toList)):=by unfold nS;rw[IG]
        have bD:=sI N cap k (k:Int) hab hlt rfl;obtain⟨X,hX⟩:=aB (au (s,m,e));obtain⟨sg,lh⟩:=aB (bg X);have hgt:zR V l (s,m,e)=(fQ l V&& !(sg==0)&&(canon X==(s,m,e))):=by unfold zR;rw[hX,lh]
        rw[hgt]at yj;obtain⟨Hwn,qG,bo,vT,Hgn,LD,HX⟩:=jL eG hl2 pb yj hgn hbad hX;have oV:Hid (bg (au (s,m,e))=sg):=by show _=_;rw[hX];exact lh
        have Hp:=aj jY;have HU:Hid (aC wr):=eK.out.below pb;clear eG hl2 yj hgn hbad hX lh hgt IG jY hx;have kF:=aj hab;clear hab;have Hb:=hbz wr;have sz:=pb.size;have Ic:Hid (aZ wr b (o+k*4) [ah l,ag s,ah m,af e]):=Hwn.out;obtain⟨ae,ak⟩:=qZ (Hp.an<|Ic.an trivial);have HU:Hid (aC wr):=HU.out;have Yh:wr.cell? ⟨b,o+k*4+2,none⟩=some (ah m):=ae.2.1.out.cell 2 zm;have Yg:wr.cell? ⟨b,o+k*4+1,none⟩=some (ag s):=ae.2.1.out.cell 1 zm;have Yf:wr.cell? ⟨b,o+k*4,none⟩=some (ah l):=ae.2.1.out.cell 0 zm;have Yi:wr.cell? ⟨b,o+k*4+3,none⟩=some (af e):=ae.2.1.out.cell 3 zm;have P0:=Yf;have P1:=Yg;have P2:=Yh;have P3:=Yi;obtain⟨W4,kV,aR,ae,ak⟩:=bX wr (Hb.an<|HU.an ae) 90 [ah l,ag s,ah m,af e];clear Hwn;cases hmv:fQ l V with
        |false=>have hr:=LD.out (by rw[vT.out,hmv];rfl);subst hr;have lV:=λW=>OW l V W (by have:=qG.out.1;omega);rw[hmv]at lV;have oQ:=aj lV;clear lV;go_wp2_with fail;refine fT 999 ae (fH 36 0x474543413f3d3b39373533312f2d2b2927251e23211d1b19171512110f0d0b0807050301) ?_;refine cG ?_;refine cV ae (oQ.out _) λw5 ae=>?_;refine cG ?_;refine fR ae λak=>?_;go_wp2;refine bodyPost_ret (results_tmp rfl _ _ _) rfl ⟨rfl,aI bo.out ae.2.1.out⟩
        | true=>
          have lV:=λW=>OW l V W (by have:=qG.out.1;omega);rw[hmv]at lV;have oQ:=aj lV;clear lV;by_cases hs0:sg=0
          . have hr:=LD.out (by rw[vT.out,hmv,hs0];rfl);subst hr hs0;go_wp2_with fail;refine fT 999 ae (fH 36 0x474543413f3d3b39373533312f2d2b2927251e23211d1b19171512110f0d0b0807050301) ?_;refine cG ?_;refine cV ae (oQ.out _) λw5 ae=>?_;refine cG ?_;refine cV ae (nR s m e 0 oV.out _ qG.out.2) λw6 ae=>?_;refine cG ?_;refine fR ae λak=>?_;go_wp2;refine bodyPost_ret (results_tmp rfl _ _ _) rfl ⟨rfl,aI bo.out ae.2.1.out⟩
          . have hs1:(sg==0)=false:=by simpa using hs0
            by_cases hc:canon X=(s,m,e)
            . have hcb:(canon X==(s,m,e))=true:=by simpa using hc
              have hne:=ah7 X s m e false hcb;clear hc;by_cases fN:k=0
              . have hg:=vT.out;rw[hmv,hs1,hcb,fN]at hg;have Re:Hid ((List.range (k+1)).all (nS V ts)=true):=by show _=_;rw[Hgn.out,fN,hg];rfl
                have hk1:decide (0<k)=false:=by simp;omega
                clear hg hcb fN;go_wp2_with fail;refine fT 999 ae (fH 36 0x474543413f3d3b39373533312f2d2b2927251e23211d1b19171512110f0d0b0807050301) ?_;refine cG ?_;refine cV ae (oQ.out _) λw5 ae=>?_;refine cG ?_;refine cV ae (nR s m e sg oV.out _ qG.out.2) λw6 ae=>?_;refine cG ?_;refine cV ae (pq s m e X HX.out _ qG.out.2 (qU ae.2.2.1.out)) λw7 ae=>?_;refine cG ?_;refine fR ae λak=>?_;go_wp2;go_roundw;case rel=>exact⟨k+1,by omega,by go_num,Re.out,ae.2.2.2.1.out,aI bo.out ae.2.1.out⟩
                case measure=>exact bC
              . have EE:k-1<ts.length:=by omega
                obtain⟨l',s',m',e',hx'⟩:∃l s m e,ts[k-1]=(l,s,m,e):=⟨_,_,_,_,rfl⟩;obtain⟨b',o',nY,VX⟩:=(Ha.out.below (aI bo.out ae.2.1.out)).term (k-1) EE hx';have hab:=kF.out;rw[hab]at nY;simp only[Option.some.injEq,Addr.mk.injEq,and_true]at nY;obtain⟨rfl,rfl⟩:=nY;have egp:ts.getD (k-1) default=(l',s',m',e'):=by simp[EE,hx']
                have hg:=vT.out;rw[egp,hmv,hs1,hcb]at hg;have afj:(k==0)=false:=by simpa using fN
                rw[afj]at hg;have hk1:decide (0<k)=true:=by simp;omega
                have hkw:IntKind.i64.wrap ((k:Int)-1)=((k-1:Nat):Int):=by rw[IntKind.wrap_i64];omega
                have atV:=sI N cap (k-1) ((k-1:Nat):Int) hab zo rfl;obtain⟨kp,Vk⟩:=aB (k-1);rw[Vk]at atV hkw VX;have aDY:kp<N:=by omega
                have gX:Hid (aZ W4 b (o+kp*4) [ah l',ag s',ah m',af e']):=VX;have aCh:=aj Vk;clear VX fN afj hcb egp hx' Vk hab;cases Jy:Op.bytesLess (bs l').toList (bs l).toList with
                | true=>
                  have Re:Hid ((List.range (k+1)).all (nS V ts)=true):=by show _=_;rw[Hgn.out,hg];simpa using Jy
                  clear hg;go_wp2_with fail;have Hp:=ae.2.2.2.1;have Ht:=ae.1;have Hb:=ae.2.1;have HU:=ae.2.2.1;obtain⟨ae,ak⟩:=qZ (Hp.an<|Ht.an<|gX.an trivial);have HU:Hid (aC W4):=HU.out;have ae:=Hb.an<|HU.an ae
                  refine fT 999 ae (fH 36 0x474543413f3d3b39373533312f2d2b2927251e23211d1b19171512110f0d0b0807050301) ?_;refine cG ?_;refine cV ae (oQ.out _) λw5 ae=>?_;refine cG ?_;refine cV ae (nR s m e sg oV.out _ qG.out.2) λw6 ae=>?_;refine cG ?_;refine cV ae (pq s m e X HX.out _ qG.out.2 (qU ae.2.1.out)) λw7 ae=>?_;refine cG ?_;refine fR ae λak=>?_;go_wp2;go_roundw;case rel=>exact⟨k+1,by omega,by go_num,Re.out,ae.2.2.1.out,aI bo.out ae.1.out⟩
                  case measure=>exact bC
                | false=>
                  have hr:=LD.out (by rw[hg];simpa using Jy);subst hr;clear hg;go_wp2_with fail;have Hp:=ae.2.2.2.1;have Ht:=ae.1;have Hb:=ae.2.1;have HU:=ae.2.2.1;obtain⟨ae,ak⟩:=qZ (Hp.an<|Ht.an<|gX.an trivial);have HU:Hid (aC W4):=HU.out;have ae:=Hb.an<|HU.an ae
                  refine fT 999 ae (fH 36 0x474543413f3d3b39373533312f2d2b2927251e23211d1b19171512110f0d0b0807050301) ?_;refine cG ?_;refine cV ae (oQ.out _) λw5 ae=>?_;refine cG ?_;refine cV ae (nR s m e sg oV.out _ qG.out.2) λw6 ae=>?_;refine cG ?_;refine cV ae (pq s m e X HX.out _ qG.out.2 (qU ae.2.1.out)) λw7 ae=>?_;refine cG ?_;refine fR ae λak=>?_;go_wp2;refine bodyPost_ret (results_tmp rfl _ _ _) rfl ⟨rfl,aI bo.out ae.1.out⟩
            . have hr:=LD.out (by
               rw[vT.out,hmv,hs1];have:(canon X==(s,m,e))=false:=by simpa using hc
               rw[this];rfl)
              subst hr;have hne:=ah7 X s m e true (by simpa using hc);clear hc;go_wp2_with fail;refine fT 999 ae (fH 36 0x474543413f3d3b39373533312f2d2b2927251e23211d1b19171512110f0d0b0807050301) ?_;refine cG ?_;refine cV ae (oQ.out _) λw5 ae=>?_;refine cG ?_;refine cV ae (nR s m e sg oV.out _ qG.out.2) λw6 ae=>?_;refine cG ?_;refine cV ae (pq s m e X HX.out _ qG.out.2 (qU ae.2.2.1.out)) λw7 ae=>?_;refine cG ?_;refine fR ae λak=>?_;go_wp2;refine bodyPost_ret (results_tmp rfl _ _ _) rfl ⟨rfl,aI bo.out ae.2.1.out⟩
      . obtain rfl:k=N:=by omega
        have hr:R=0:=by rw[<-hR.out,if_pos pD]
        subst hr;go_wp2;refine bodyPost_ret (results_tmp rfl _ _ _) rfl ⟨rfl,pb⟩
 . have hR:=HR.out;rw[if_pos h1]at hR;clear HR;subst hR;have Hb:=ae.1;go_wp2;exact bodyPost_ret (v:=af 1) (by simp[results,Tryz.results49,go_sem,ak]) rfl ⟨rfl,df⟩
def ao3 (bk k g n c:Nat)(z:Int)(w:World)(hk:w.cell? ⟨bk,0,none⟩=some (af (k:Int)))(hkn:k<n)(h0:w.cell? ⟨g,k*2,none⟩=some (ag (az z)))(h1:w.cell? ⟨g,k*2+1,none⟩=some (ah (nt z.natAbs)))(hz:(nt z.natAbs).length<=1099511627776):
 Cv 271 #[.slice (some ⟨g,0,none⟩) n c,.pointer (some ⟨bk,0,none⟩)] w (ag (decide (z≠0))):=by
 have bD:=yx n c k (k:Int) (show some (⟨g,0,none⟩:Addr)=some ⟨g,0,none⟩from rfl) hkn rfl;rw[Nat.zero_add]at bD;have Hz:=aj hz;obtain⟨s,hs⟩:=aB (az z);obtain⟨l,hl⟩:=aB (nt z.natAbs);have lh:=λW=>FM (az z) (nt z.natAbs) W hz;rw[dH]at lh;rw[hs,hl]at lh;rw[hs]at h0;rw[hl]at h1;obtain⟨t,ht⟩:=aB (eI z);rw[ht]at lh;have hd:decide (z≠0)=decide (t≠0):=by
  rw[<-ht];unfold eI;by_cases h:z=0
  . simp[h]
  . by_cases h2:z<0
    . simp[h,h2]
    . simp[h,h2]
 rw[hd];have oV:=aj lh;clear lh hd ht hs hl hz Hz;have Hb:=hbz w;go_enter Tryz.func271,Tryz.ntmps271;go_wp2_with fail;refine aJ (Hb.an trivial) (oV.out _) λw1 ae ak=>?_;clear h0 h1 hk bD;go_wp2;refine bodyPost_ret (results_tmp rfl _ _ _) rfl ⟨?_,ae.1.out⟩;by_cases h:t=0<;>simp[h]
def auK (p:Value->Bool)(vs:List Value)(q:Nat->Bool)(c:Nat)(h:∀i (hi:i<vs.length),p vs[i]=q i):
 idxFrom p vs c=match (List.range vs.length).find? q with|none=>-1|some m=>((c+m:Nat):Int):=by
 induction vs generalizing c q with
 |nil=>rfl
 | cons v vs ih=>
   have h0:=h 0 zm;have hs:=ih (λi=>q (i+1)) (c+1) (λi hi=>h (i+1) (by simpa using hi));simp only[List.getElem_cons_zero]at h0;rw[List.length_cons,List.range_succ_eq_map,List.find?_cons];unfold idxFrom;rw[h0];cases hq:q 0 with
   |true=>simp
   | false=>
     rw[hs,List.find?_map];simp only[Bool.false_eq_true,if_false];have e:(q∘Nat.succ)=λi=>q (i+1):=rfl;rw[e];cases (List.range vs.length).find? λi=>q (i+1)with
     |none=>rfl
     |some m=>simp only[Option.map_some];congr 1;omega
def axS (p:Value->Bool)(vals:List Value)(f:Nat->Nat->Int)(n k:Nat)(hn:vals.length=n)(h:∀i (hi:i<vals.length),p vals[i]=decide (f i k≠0)):
 idxFrom p (vals.drop k) 0=match sP f n k with|none=>-1|some m=>(m:Int):=by
 rw[auK p (vals.drop k) (λi=>f (k+i) k !=0) 0 (λi hi=>by
  rw[List.getElem_drop,h]
  simp[bne,Bool.beq_eq_decide_eq])]
 unfold sP;rw[List.length_drop,hn];simp only[Nat.zero_add]
def aA7 (x y:Int)(w:World)(hx:(nt x.natAbs).length<=34359738368)(hy:(nt y.natAbs).length<=34359738368)(h0:y≠0)(hd:y∣x):
 Cl 228 #[.agg #[ag (az x),ah (nt x.natAbs)],.agg #[ag (az y),ah (nt y.natAbs)]] w λe w'=>∃r,e=.returned (.tuple #[cd (x/y),r,ag true])/\Bw w w':=by
 have h:=aA8 (az x) (az y) (nt x.natAbs) (nt y.natAbs) w hx hy (by rw[jP];omega) (by rw[jP,jP];exact Nat.mod_eq_zero_of_dvd (Int.natAbs_dvd_natAbs.2 hd));rw[dH,dH]at h;exact h
end Go.Proofs.YtbkopgdpcijfbaaGreatDoor
namespace Go.Proofs.YtbkopgdpcijfbaaGreatDoor
open Go.RowKit
def eV (f:Nat->Nat->Int)(n:Nat):List (List Int):=(List.range n).map λa=>(List.range n).map (f a)
def KS (f:Nat->Nat->Int)(n:Nat):(eV f n).length=n:=by simp[eV]
def PO (f:Nat->Nat->Int)(n i:Nat)(h:i<n):(eV f n).getD i []=(List.range n).map (f i):=by simp[eV,List.getD_eq_getElem?_getD,h]
def aAe (f:Nat->Nat->Int)(n i j:Nat)(h:i<n)(h':j<n):((eV f n).getD i []).getD j 0=f i j:=by rw[PO f n i h];simp[List.getD_eq_getElem?_getD,h']
def aAf (f:Nat->Nat->Int)(n i j:Nat)(y:Int)(h:i<n):(eV f n).set i (((eV f n).getD i []).set j y)=eV (λa b=>if a=i/\b=j then y else f a b) n:=by
 rw[PO f n i h];apply List.ext_getElem
 . simp[eV]
 . intro a h1 h2;have ha:a<n:=by simpa[eV]using h2
   rw[List.getElem_set];split
   . rename_i e
     subst e;apply List.ext_getElem
     . simp[eV]
     . intro b h3 h4;have hb:b<n:=by simpa[eV]using h4
       rw[List.getElem_set];by_cases e2:j=b
       . subst e2;simp[eV]
       . have e3:¬b=j:=λe=>e2 e.symm;simp[eV,e2,e3]
   . rename_i e
     have e3:¬a=i:=λe'=>e e'.symm;simp[eV,e3]
def aAg (f:Nat->Nat->Int)(n k m:Nat)(h:k<n)(h':m<n):((eV f n).set k ((eV f n).getD m [])).set m ((eV f n).getD k [])=eV (bY f k m) n:=by
 apply List.ext_getElem
 . simp[eV]
 . intro a h1 h2;have ha:a<n:=by simpa[eV]using h2
   have hs:=XC (eV f n) [] k m (by rw[KS];exact h) (by rw[KS];exact h') a (by rw[KS];exact ha);rw[List.getD_eq_getElem?_getD,List.getElem?_eq_getElem h1]at hs;simp only[Option.getD_some]at hs;rw[hs,PO f n _ (PM h h' ha)];simp[eV,bY,swp]
def Fu {w:World}{base:Nat}{e:TypeId}{size n cap g:Nat}{xs:List Value}(h:w.ownsRow base e size (.slice (some ⟨g,0,none⟩) n cap) n xs):base<=g/\∃cur,ar w g e cur:=by
 rcases h.2 with⟨h1,_⟩ |⟨g',cap',cur,h1,hb,hg,_,_,_,hx⟩
 . simp at h1
 . simp only[Value.slice.injEq,Option.some.injEq,Addr.mk.injEq,and_true,true_and]at h1;obtain⟨rfl,rfl⟩:=h1;exact⟨hb,cur.toList,by unfold ar;simpa using hg⟩
def WZ {w:World}{base:Nat}{e:TypeId}{size n:Nat}{v:Value}{xs:List Value}(h:w.ownsRow base e size v n xs)(hn:1<=n):∃g cap,v=.slice (some ⟨g,0,none⟩) n cap:=by
 rcases h.2 with⟨h1,h2⟩ |⟨g',cap',cur,h1,_⟩
 . omega
 . exact⟨g',cap',h1⟩
def aAd {f g:Nat->Nat->Int}(n:Nat)(h:∀a b,a<n->b<n->f a b=g a b):eV f n=eV g n:=by unfold eV;refine List.map_congr_left (λa ha=>List.map_congr_left (λb hb=>h a b (List.mem_range.1 ha) (List.mem_range.1 hb)))
def aok (w:World)(go L top:Nat):Prop:=go<top/\∀m g n c,m<L->w.cell? ⟨go,m,none⟩=some (.slice (some ⟨g,0,none⟩) n c)->g<top
def BS (w0 w:World)(base n go cap top:Nat)(f:Nat->Nat->Int):Prop:=
 jS w base n (eV f n) n (.slice (some ⟨go,0,none⟩) n cap)/\aok w go n top/\Below base w0 w/\top<=w.heap.size
def BS.begin {w:World}{base n:Nat}{f:Nat->Nat->Int}{v:Value}(h:jS w base n (eV f n) n v)(hn:1<=n):∃go cap,v=.slice (some ⟨go,0,none⟩) n cap/\n<=cap/\BS w w base n go cap w.heap.size f:=by
 have h0:=h;obtain⟨vals,hl,ho,hv,_⟩:=h;obtain⟨go,cap,rfl⟩:=WZ ho hn;refine⟨go,cap,rfl,Pk ho,h0,⟨?_,λm g n' c hm hc=>?_⟩,Below.refl _ _,Nat.le_refl _⟩
 . obtain⟨_,cur,hb⟩:=Fu ho;exact hb.lt
 . have hm2:m<vals.length:=by omega
   rw[oD ho m hm2]at hc;simp only[Option.some.injEq]at hc;have hrow:=hv m hm2;obtain⟨g',cap',e⟩:=WZ hrow hn;rw[e]at hrow hc;simp at hc;obtain⟨rfl,rfl,rfl⟩:=hc;exact(Fu hrow).2.choose_spec.lt
def BS.below {w0 w w':World}{base n go cap top:Nat}{f:Nat->Nat->Int}(h:BS w0 w base n go cap top f)(hb:Bw w w')(pC:base<=top):BS w0 w' base n go cap top f:=by
 obtain⟨h1,⟨h2,h3⟩,h4,h5⟩:=h;have hs:=hb.size;refine⟨h1.below hb,⟨h2,λm g n' c hm hc=>h3 m g n' c hm ?_⟩,?_,by omega⟩
 . rw[World.cell?_of_block (a:=⟨go,m,none⟩) (w:=w) (hb.block go zo)]at hc;exact hc
 . exact h4.trans (hb.mono zo)
def BS.congr {w0 w:World}{base n go cap top:Nat}{f g:Nat->Nat->Int}(h:BS w0 w base n go cap top f)(he:∀a b,a<n->b<n->f a b=g a b):BS w0 w base n go cap top g:=by unfold BS at*;rw[<-aAd n he];exact h
def BS.row {w0 w:World}{base n go cap top:Nat}{f:Nat->Nat->Int}(h:BS w0 w base n go cap top f)(i:Nat)(hi:i<n):
 ∃g c,base<=g/\g<top/\w.cell? ⟨go,i,none⟩=some (.slice (some ⟨g,0,none⟩) n c)/\(∀j,j<n->w.cell? ⟨g,j*2,none⟩=some (ag (az (f i j)))/\w.cell? ⟨g,j*2+1,none⟩=some (ah (nt (f i j).natAbs)))/\
  (∀q,w.frozen? ⟨g,q,none⟩=false)/\
  ∀j,j<n->∀y:Int,BS w0 ((w.setCell ⟨g,j*2,none⟩ (ag (az y))).setCell ⟨g,j*2+1,none⟩ (ah (nt y.natAbs))) base n go cap top (λa b=>if a=i/\b=j then y else f a b):=by
 obtain⟨h1,⟨h2,h3⟩,h4,h5⟩:=h;have hR:(eV f n).length=n:=KS f n;have hr:((eV f n).getD i []).length=n:=by rw[PO f n i hi];simp
 obtain⟨vals,hl,ho,hv,hd⟩:=id h1;have hi2:i<vals.length:=by omega
 have hrow:=hv i hi2;obtain⟨g,c,e⟩:=WZ hrow zo;rw[e]at hrow;obtain⟨hbg,cur,hblk⟩:=Fu hrow;have hc0:w.cell? ⟨go,i,none⟩=some (.slice (some ⟨g,0,none⟩) n c):=by rw[oD ho i hi2,e]
 refine⟨g,c,hbg,h3 i g n c hi hc0,hc0,λj hj=>?_,λq=>hblk.free q,λj hj y=>?_⟩
 . obtain⟨go',cap',g',c',e0,_,_,_,e1,e2,e3,_⟩:=h1.num i j hi hj hR hr;simp at e0;obtain⟨rfl,rfl⟩:=e0;rw[hc0]at e1;simp at e1;obtain⟨rfl,rfl⟩:=e1;rw[aAe f n i j hi hj]at e2 e3;exact⟨e2,e3⟩
 . obtain⟨go',cap',g',c',e0,hb1,hb2,hne,e1,e2,e3,hw⟩:=h1.num i j hi hj hR hr;simp at e0;obtain⟨rfl,rfl⟩:=e0;rw[hc0]at e1;simp at e1;obtain⟨rfl,rfl⟩:=e1;have h6:=hw y;rw[aAf f n i j y hi]at h6;refine⟨h6,⟨h2,λm g' n' c' hm hc=>h3 m g' n' c' hm ?_⟩,(h4.setCell hb2 _).setCell hb2 _,by simpa using h5⟩;rw[World.cell?_setCell_far _ _ _ _ (by simpa using hne),World.cell?_setCell_far _ _ _ _ (by simpa using hne)]at hc;exact hc
def BS.swap {w0 w:World}{base n go cap top:Nat}{f:Nat->Nat->Int}(h:BS w0 w base n go cap top f)(i m:Nat)(hi:i<n)(hm:m<n):
 ∃g1 c1 g2 c2,w.cell? ⟨go,i,none⟩=some (.slice (some ⟨g1,0,none⟩) n c1)/\w.cell? ⟨go,m,none⟩=some (.slice (some ⟨g2,0,none⟩) n c2)/\(∀q,w.frozen? ⟨go,q,none⟩=false)/\
  BS w0 ((w.setCell ⟨go,i,none⟩ (.slice (some ⟨g2,0,none⟩) n c2)).setCell ⟨go,m,none⟩ (.slice (some ⟨g1,0,none⟩) n c1)) base n go cap top (bY f i m):=by
 have hb:=h;obtain⟨g1,c1,_,t1,e1,_⟩:=hb.row i hi;obtain⟨g2,c2,_,t2,e2,_⟩:=hb.row m hm;obtain⟨h1,⟨h2,h3⟩,h4,h5⟩:=h;obtain⟨_,_,ho,_,_⟩:=id h1;obtain⟨yh,cur,hblk⟩:=Fu ho;obtain⟨x,y,q1,q2,hw⟩:=h1.swap i m hi hm (KS f n);rw[e1]at q1;rw[e2]at q2;simp only[Option.some.injEq]at q1 q2;subst q1 q2;rw[aAg f n i m hi hm]at hw;refine⟨g1,c1,g2,c2,e1,e2,λq=>hblk.free q,hw,⟨h2,λm' g' n' c' hm' hc=>?_⟩,(h4.setCell yh _).setCell yh _,by simpa using h5⟩;by_cases h7:m'=m
 . subst h7;rw[ar.cell ((hblk.set i _).set m' _)]at hc;rw[List.getElem?_set_self']at hc;have:g'=g1:=by
    cases hq:(cur.set i (.slice (some ⟨g2,0,none⟩) n c2))[m']? with
    |none=>rw[hq]at hc;simp at hc
    |some z=>rw[hq]at hc;simp at hc;exact hc.1.symm
   omega
 . rw[World.cell?_setCell_other _ _ _ _ (show(⟨go,m,none⟩:Addr)≠⟨go,m',none⟩from λe=>h7 (by simpa using e.symm))]at hc;by_cases h8:m'=i
   . subst h8;rw[ar.cell (hblk.set m' _),List.getElem?_set_self']at hc;have:g'=g2:=by
      cases hq:cur[m']? with
      |none=>rw[hq]at hc;simp at hc
      |some z=>rw[hq]at hc;simp at hc;exact hc.1.symm
     omega
   . rw[World.cell?_setCell_other _ _ _ _ (show(⟨go,i,none⟩:Addr)≠⟨go,m',none⟩from λe=>h8 (by simpa using e.symm))]at hc;exact h3 m' g' n' c' hm' hc
end Go.Proofs.YtbkopgdpcijfbaaGreatDoor
namespace Go.Proofs.YtbkopgdpcijfbaaGreatDoor
open Go.RowKit
attribute [local go_sem ↓] Go.wp_at_zero Go.wp_at_succ
def BT (w0 w:World)(base n go cap top:Nat)(f:Nat->Nat->Int)(r l kb:Nat)(last:Int)(k:Nat):Prop:=
 BS w0 w base n go cap top f/\ar w r 28 [ag false,.string ⟨#[]⟩]/\ar w l 28 [ag (az last),ah (nt last.natAbs)]/\ar w kb 3 [af (k:Int)]/\base<=top/\top<=r/\top<=l/\top<=kb
def BT.below {w0 w w':World}{base n go cap top:Nat}{f:Nat->Nat->Int}{r l kb:Nat}{last:Int}{k:Nat}(h:BT w0 w base n go cap top f r l kb last k)(hb:Bw w w'):BT w0 w' base n go cap top f r l kb last k:=by obtain⟨h1,h2,h3,h4,h5,h6⟩:=h;exact⟨h1.below hb h5,h2.below hb,h3.below hb,h4.below hb,h5,h6⟩
def BT.congr {w0 w:World}{base n go cap top:Nat}{f g:Nat->Nat->Int}{r l kb:Nat}{last:Int}{k:Nat}(h:BT w0 w base n go cap top f r l kb last k)(he:∀a b,a<n->b<n->f a b=g a b):BT w0 w base n go cap top g r l kb last k:=
 ⟨h.1.congr he,h.2⟩
def BT.drew {w0 w:World}{base n go cap top:Nat}{f:Nat->Nat->Int}{r l kb:Nat}{last:Int}{k:Nat}(h:BT w0 w base n go cap top f r l kb last k):BT w0 w.drew base n go cap top f r l kb last k:=h.below ((Below.refl _ _).drew)
def BT.row {w0 w:World}{base n go cap top:Nat}{f:Nat->Nat->Int}{r l kb:Nat}{last:Int}{k:Nat}(h:BT w0 w base n go cap top f r l kb last k)(i:Nat)(hi:i<n):
 ∃g c,g<w.heap.size/\g<top/\w.cell? ⟨go,i,none⟩=some (.slice (some ⟨g,0,none⟩) n c)/\(∀j,j<n->w.cell? ⟨g,j*2,none⟩=some (ag (az (f i j)))/\w.cell? ⟨g,j*2+1,none⟩=some (ah (nt (f i j).natAbs)))/\
  (∀q,w.frozen? ⟨g,q,none⟩=false)/\
  ∀j,j<n->∀y:Int,BT w0 ((w.setCell ⟨g,j*2,none⟩ (ag (az y))).setCell ⟨g,j*2+1,none⟩ (ah (nt y.natAbs))) base n go cap top (λa b=>if a=i/\b=j then y else f a b) r l kb last k:=by
 obtain⟨h1,h2,h3,h4,h5,h6,h7,h8⟩:=h;have h9:=h1.2.2.2;obtain⟨g,c,hb,ht,e1,e2,e3,hw⟩:=h1.row i hi;refine⟨g,c,by omega,ht,e1,e2,e3,λj hj y=>⟨hw j hj y,?_,?_,?_,h5,h6,h7,h8⟩⟩
 . exact(h2.so _ _ zo _).so _ _ zo _
 . exact(h3.so _ _ zo _).so _ _ zo _
 . exact(h4.so _ _ zo _).so _ _ zo _
def BT.swap {w0 w:World}{base n go cap top:Nat}{f:Nat->Nat->Int}{r l kb:Nat}{last:Int}{k:Nat}(h:BT w0 w base n go cap top f r l kb last k)(i m:Nat)(hi:i<n)(hm:m<n):
 ∃g1 c1 g2 c2,w.cell? ⟨go,i,none⟩=some (.slice (some ⟨g1,0,none⟩) n c1)/\w.cell? ⟨go,m,none⟩=some (.slice (some ⟨g2,0,none⟩) n c2)/\(∀q,w.frozen? ⟨go,q,none⟩=false)/\
  BT w0 ((w.setCell ⟨go,i,none⟩ (.slice (some ⟨g2,0,none⟩) n c2)).setCell ⟨go,m,none⟩ (.slice (some ⟨g1,0,none⟩) n c1)) base n go cap top (bY f i m) r l kb last k:=by
 obtain⟨h1,h2,h3,h4,h5,h6,h7,h8⟩:=h;have h9:=h1.2.1.1;obtain⟨g1,c1,g2,c2,e1,e2,e3,hw⟩:=h1.swap i m hi hm;refine⟨g1,c1,g2,c2,e1,e2,e3,hw,?_,?_,?_,h5,h6,h7,h8⟩
 . exact(h2.so _ _ zo _).so _ _ zo _
 . exact(h3.so _ _ zo _).so _ _ zo _
 . exact(h4.so _ _ zo _).so _ _ zo _
def BT.aGO {w0 w:World}{base n go cap top:Nat}{f:Nat->Nat->Int}{r l kb:Nat}{last:Int}{k:Nat}(h:BT w0 w base n go cap top f r l kb last k)(i:Nat)(hi:i<n):
 ∃g c,g<w.heap.size/\g<top/\w.cell? ⟨go,i,none⟩=some (.slice (some ⟨g,0,none⟩) n c)/\(∀j,j<n->w.cell? ⟨g,j*2,none⟩=some (ag (az (f i j)))/\w.cell? ⟨g,j*2+1,none⟩=some (ah (nt (f i j).natAbs)))/\
  ∀w',Bw w w'->(∀q,w'.frozen? ⟨g,q,none⟩=false)/\∀j,j<n->∀y:Int,BT w0 ((w'.setCell ⟨g,j*2,none⟩ (ag (az y))).setCell ⟨g,j*2+1,none⟩ (ah (nt y.natAbs))) base n go cap top (λa b=>if a=i/\b=j then y else f a b) r l kb last k:=by
 obtain⟨g,c,h1,h2,h3,h4,_,_⟩:=h.row i hi;refine⟨g,c,h1,h2,h3,h4,λw' hb=>?_⟩;obtain⟨g',c',_,_,e3,_,e5,e6⟩:=(h.below hb).row i hi;have:=cell_later hb h3;rw[e3]at this;simp at this;obtain⟨rfl,rfl⟩:=this;exact⟨e5,e6⟩
def BS.setOther {w0 w:World}{base n go cap top:Nat}{f:Nat->Nat->Int}(h:BS w0 w base n go cap top f)(pC:base<=top)(p o:Nat)(u:Value)(hp:top<=p):BS w0 (w.setCell ⟨p,o,none⟩ u) base n go cap top f:=by
 have hbs:=h;obtain⟨⟨vals,hl,ho,hv,hd⟩,⟨h2,h3⟩,h4,h5⟩:=h;refine⟨⟨vals,hl,ownsRow_setCell_other ho (by simp[Value.ownBlock];omega) _,λi hi=>?_,hd⟩,⟨h2,λm g n' c hm hc=>h3 m g n' c hm ?_⟩,h4.setCell zp _,by simpa using h5⟩
 . obtain⟨g,c,_,ht,e,_⟩:=hbs.row i zo;rw[oD ho i hi]at e;have e1:vals[i]=.slice (some ⟨g,0,none⟩) n c:=by simpa using e
   exact ownsRow_setCell_other (hv i hi) (by rw[e1];simp[Value.ownBlock];omega) _
 . rw[World.cell?_setCell_far _ _ _ _ zp]at hc;exact hc
def BT.setLast {w0 w:World}{base n go cap top:Nat}{f:Nat->Nat->Int}{r l kb:Nat}{last:Int}{k:Nat}(h:BT w0 w base n go cap top f r l kb last k)(x:Int)(h1:l≠r)(h2:l≠kb):
 BT w0 ((w.setCell ⟨l,0,none⟩ (ag (az x))).setCell ⟨l,1,none⟩ (ah (nt x.natAbs))) base n go cap top f r l kb x k:=by
 obtain⟨q1,q2,q3,q4,q5,q6,q7,q8⟩:=h;exact⟨(q1.setOther q5 l 0 _ q7).setOther q5 l 1 _ q7,(q2.so _ _ h1 _).so _ _ h1 _,(q3.set 0 _).set 1 _,(q4.so _ _ h2 _).so _ _ h2 _,q5,q6,q7,q8⟩
def aBc (x y N:Int)(h:x-y=N)(w:World)(hx:(nt x.natAbs).length<=34359738368)(hy:(nt y.natAbs).length<=34359738368):
 Cv 134 #[.agg #[ag (az x),ah (nt x.natAbs)],.agg #[ag (az y),ah (nt y.natAbs)]] w (cd N):=by
 have:=KY (az x) (nt x.natAbs) (az y) (nt y.natAbs) w hx hy;rw[dH,dH,h]at this;exact this
def ajS (x y N:Int)(h:x*y=N)(b cap:Nat)(ty:TypeId)(w:World)(hx:(nt x.natAbs).length<=17179869184)(hy:(nt y.natAbs).length<=17179869184)(ha:ar w b ty [ag (az x),ah (nt x.natAbs),ag (az y),ah (nt y.natAbs)]):
 Cv 153 #[.slice (some ⟨b,0,none⟩) 2 cap] w (cd N):=
 ajT _ _ _ _ N (by rw[dH,dH,h]) b cap ty w hx hy ha
def BS.row_ne {w0 w:World}{base n go cap top:Nat}{f:Nat->Nat->Int}(h:BS w0 w base n go cap top f)(i:Nat)(hi:i<n){g c:Nat}(hc:w.cell? ⟨go,i,none⟩=some (.slice (some ⟨g,0,none⟩) n c)):g≠go:=by
 obtain⟨⟨vals,hl,ho,hv,hd⟩,_⟩:=h;have hi2:i<vals.length:=by omega
 rw[oD ho i hi2]at hc;simp only[Option.some.injEq]at hc;have hrow:=hv i hi2;rw[hc]at hrow;obtain⟨_,c1,b1⟩:=Fu hrow;obtain⟨_,c2,b2⟩:=Fu ho;rintro rfl;have:=b1.symm.trans b2;simp at this
def Kz (f:Nat->Nat->Int)(n k:Nat):Int:=match sP f n k with|none=>-1|some m=>(m:Int)
open Classical in
def BS.index {w0 w:World}{base n go cap top:Nat}{f:Nat->Nat->Int}(h:BS w0 w base n go cap top f)(k kb:Nat)(hk:k<n)(hn:n<=8)(hkb:w.cell? ⟨kb,0,none⟩=some (af (k:Int)))(hz:∀a b,a<n->b<n->(nt (f a b).natAbs).length<=1099511627776):
 Cv 270 #[.slice (some ⟨go,k,none⟩) (n-k) (cap-k),.func (.func 271) #[] #[.pointer (some ⟨kb,0,none⟩)]] w (af (Kz f n k)):=by
 have hbs:=h;obtain⟨h1,_,_,_⟩:=h;obtain⟨vals,hl,ho,hv,hd⟩:=h1;have hrow:∀i (hi:i<vals.length),∃g c,vals[i]=.slice (some ⟨g,0,none⟩) n c/\∀j,j<n->w.cell? ⟨g,j*2,none⟩=some (ag (az (f i j)))/\w.cell? ⟨g,j*2+1,none⟩=some (ah (nt (f i j).natAbs)):=by intro i hi;obtain⟨g,c,_,_,e1,e2,_⟩:=hbs.row i zo;rw[oD ho i hi]at e1;exact⟨g,c,by simpa using e1,e2⟩
 have hinj:∀i j (hi:i<vals.length) (hj:j<vals.length),vals[i]=vals[j]->i=j:=by intro i j hi hj e;obtain⟨g,c,e1,_⟩:=hrow i hi;exact hd i j hi hj g (by rw[e1];rfl) (by rw[<-e,e1];rfl)
 obtain⟨p,hp⟩:∃p:Value->Bool,∀i (hi:i<vals.length),p vals[i]=decide (f i k≠0):=by
  refine⟨λv=>decide (∃i,∃hi:i<vals.length,vals[i]=v/\f i k≠0),λi hi=>?_⟩;by_cases h0:f i k≠0
  . have:∃j,∃hj:j<vals.length,vals[j]=vals[i]/\f j k≠0:=⟨i,hi,rfl,h0⟩;show decide _=decide _
    rw[decide_eq_true this,decide_eq_true h0]
  . have:¬∃j,∃hj:j<vals.length,vals[j]=vals[i]/\f j k≠0:=by rintro⟨j,hj,e,h2⟩;exact h0 (by rw[<-hinj j i hj hi e];exact h2)
    simp only[this,h0,decide_false]
 have hpv:=axS p vals f n k zo hp;have hat:At w (some ⟨go,k,none⟩) (vals.drop k):=by refine .inr ⟨go,k,rfl,λj hj=>?_⟩;rw[List.length_drop]at hj;rw[oD ho (k+j) zo,List.getElem?_drop,List.getElem?_eq_getElem]
 have:=auG (some ⟨go,k,none⟩) (n-k) (cap-k) (vals.drop k) 271 #[.pointer (some ⟨kb,0,none⟩)] p w (by rw[List.length_drop,hl]) zo hat (enters_of Tryz.func271 zk rfl) (λv hv W hb=>by
  obtain⟨i,hi,rfl⟩:=List.mem_iff_getElem.1 hv;rw[List.getElem_drop];have hi2:k+i<vals.length:=by rw[List.length_drop]at hi;omega
  obtain⟨g,c,e1,e2⟩:=hrow (k+i) hi2;obtain⟨e3,e4⟩:=e2 k hk;rw[hp (k+i) hi2,e1]
  exact ao3 kb k g n c (f (k+i) k) W (cell_later hb hkb) hk (cell_later hb e3) (cell_later hb e4) (hz _ _ zo hk))
 rw[hpv]at this;exact this
end Go.Proofs.YtbkopgdpcijfbaaGreatDoor
namespace Go.Proofs.YtbkopgdpcijfbaaGreatDoor
open Go.RowKit
def gK (w:World)(base n:Nat)(R:List (List Dyadic))(k:Nat)(v:Value):Prop:=
 ∃vals:List Value,vals.length=k/\w.ownsRow base 35 1 v k vals/\(∀i (h:i<vals.length),w.ownsRow base 30 3 vals[i] n (dC (R.getD i [])))/\
  ∀i j (hi:i<vals.length) (hj:j<vals.length) g,vals[i].ownBlock=some g->vals[j].ownBlock=some g->i=j
def gK.nil (w:World)(base n:Nat)(R:List (List Dyadic)):gK w base n R 0 (.slice none 0 0):=
 ⟨[],rfl,World.ownsRow_nil _ _ _ _,λ_ h=>absurd h (Nat.not_lt_zero _),λ_ _ h=>absurd h (Nat.not_lt_zero _)⟩
def gK.below {w w':World}{base n k:Nat}{R:List (List Dyadic)}{v:Value}(h:gK w base n R k v)(hb:Bw w w'):gK w' base n R k v:=by obtain⟨vals,hl,ho,hi,hd⟩:=h;exact⟨vals,hl,ownsRow_below ho hb,λi h=>ownsRow_below (hi i h) hb,hd⟩
def gK.push {w w':World}{base n k:Nat}{R:List (List Dyadic)}{v v' x:Value}{vals:List Value}(hl:vals.length=k)(hov:w.ownsRow base 35 1 v k vals)(hi:∀i (h:i<vals.length),w.ownsRow base 30 3 vals[i] n (dC (R.getD i [])))
 (hd:∀i j (hi:i<vals.length) (hj:j<vals.length) g,vals[i].ownBlock=some g->vals[j].ownBlock=some g->i=j)
 (hx:w.ownsRow base 30 3 x n (dC (R.getD k []))) (vh:∀g,x.ownBlock=some g->∀i (h:i<vals.length),vals[i].ownBlock≠some g)
 (ho:w'.ownsRow base 35 1 v' (k+1) (vals++[x])) (hg:w.grownBy w' v.ownBlock):gK w' base n R (k+1) v':=by
 refine⟨_,by simp[hl],ho,λi h=>?_,λi j h1 h2 g e1 e2=>?_⟩
 . by_cases hk:i<vals.length
   . rw[List.getElem_append_left hk];exact(hi i hk).kept hg (KJ (hi i hk) hov zd)
   . have hik:i=k:=by simp at h;omega
     subst hik;rw[List.getElem_append_right zo];simp only[hl,Nat.sub_self,List.getElem_cons_zero];exact hx.kept hg (KJ hx hov zd)
 . by_cases k1:i<vals.length
   . rw[List.getElem_append_left k1]at e1;by_cases k2:j<vals.length
     . rw[List.getElem_append_left k2]at e2;exact hd i j k1 k2 g e1 e2
     . have hjk:j=k:=by simp at h2;omega
       subst hjk;rw[List.getElem_append_right zo]at e2;simp only[hl,Nat.sub_self,List.getElem_cons_zero]at e2;exact absurd e1 (vh g e2 i k1)
   . have hik:i=k:=by simp at h1;omega
     subst hik;rw[List.getElem_append_right zo]at e1;simp only[hl,Nat.sub_self,List.getElem_cons_zero]at e1;by_cases k2:j<vals.length
     . rw[List.getElem_append_left k2]at e2;exact absurd e2 (vh g e1 j k2)
     . simp at h2;omega
def gK.tbl {w:World}{base n k:Nat}{R:List (List Dyadic)}{v:Value}(h:gK w base n R k v)(hk:R.length=k)(hn:∀r∈R,r.length=n):∃a c,v=.slice a k c/\k<=c/\bJ w a (R.map λr=>r.map canon):=by
 obtain⟨vals,hl,ho,hi,hd⟩:=h;obtain⟨a,c,hv,hat,_⟩:=dZ ho;subst hv;refine⟨a,c,rfl,Pk ho,vals,by simp[hl,hk],hat,λi h1 h2=>?_⟩;obtain⟨a1,c1,e1,e2,_⟩:=dZ (hi i h2);have hi1:i<R.length:=by simpa using h1
 have eg:R.getD i []=R[i]:=by simp[hi1]
 rw[eg]at e2;refine⟨a1,c1,?_,?_⟩
 . rw[e1];simp[hn _ (List.getElem_mem hi1)]
 . rw[List.getElem_map,<-sf];exact e2
def aqI (ds:List Dyadic)(j:Nat)(hj:j<ds.length):(dC ds)[j*3]?=some (ag (az (dN ds[j])))/\(dC ds)[j*3+1]?=some (ah (nt (dN ds[j]).natAbs))/\(dC ds)[j*3+2]?=some (af (dE ds[j])):=by have h:=λi (hi:i<3)=>flat_get (λd=>bu (canon d)) 3 (λ_=>rfl) ds j i hj hi;unfold dC;exact⟨(h 0 zd),(h 1 zd),(h 2 zd)⟩
def gK.num {w:World}{base n L:Nat}{R:List (List Dyadic)}{v:Value}(h:gK w base n R L v)(i j:Nat)(hi:i<L)(hj:j<n)(hR:R.length=L)(hr:(R.getD i []).length=n):
 ∃go cap g c,v=.slice (some ⟨go,0,none⟩) L cap/\base<=go/\base<=g/\g≠go/\w.cell? ⟨go,i,none⟩=some (.slice (some ⟨g,0,none⟩) n c)/\
  aZ w g (j*3) [ag (az (dN ((R.getD i []).getD j 0))),ah (nt (dN ((R.getD i []).getD j 0)).natAbs),af (dE ((R.getD i []).getD j 0))]/\(∀o,w.frozen? ⟨g,o,none⟩=false)/\
  ∀y:Dyadic,gK (((w.setCell ⟨g,j*3,none⟩ (ag (az (dN y)))).setCell ⟨g,j*3+1,none⟩ (ah (nt (dN y).natAbs))).setCell ⟨g,j*3+2,none⟩ (af (dE y))) base n (R.set i ((R.getD i []).set j y)) L v:=by
 obtain⟨vals,hl,ho,hv,hd⟩:=h;have hi2:i<vals.length:=by omega
 have hrow:=hv i hi2;have hxl:(dC (R.getD i [])).length=n*3:=by rw[acb,hr]
 obtain⟨a0,cap,rfl,_,_⟩:=dZ ho;obtain⟨a1,c,e1,_,hab⟩:=dZ hrow;rw[e1]at hrow;rcases ho.2 with⟨h1,_⟩ |⟨go,cap',cur,h1,yh,hgo,_⟩
 . simp at h1;omega
 simp only[Value.slice.injEq,true_and]at h1;obtain⟨rfl,rfl⟩:=h1;have hrow2:=hrow;rcases hrow.2 with⟨h1,_⟩ |⟨g,c',cur',h1,hbg,hgg,_⟩
 . simp at h1;omega
 simp only[Value.slice.injEq,true_and]at h1;obtain⟨rfl,rfl⟩:=h1;have hne:g≠go:=by rintro rfl;rw[hgo]at hgg;simp at hgg
 have hat:=aqI (R.getD i []) j zo;have hg0:(R.getD i []).getD j 0=(R.getD i [])[j]'zo:=by rw[List.getD_eq_getElem?_getD,List.getElem?_eq_getElem zo];rfl
 have hc0:=oD hrow (j*3) zo;have hc1:=oD hrow (j*3+1) zo;have hc2:=oD hrow (j*3+2) zo;rw[<-List.getElem?_eq_getElem]at hc0 hc1 hc2;rw[hat.1]at hc0;rw[hat.2.1]at hc1;rw[hat.2.2]at hc2;refine⟨go,cap,g,c,rfl,yh,hbg,hne,?_,by rw[hg0];exact kE hc0 hc1 hc2,λo=>?_,λy=>?_⟩
 . rw[oD ho i zo,e1]
 . have h4:ar w g 30 cur'.toList:=by unfold ar;simpa using hgg
   exact h4.free o
 . refine⟨vals,hl,?_,λm hm=>?_,hd⟩
   . have hn:∀(o:Nat) (u:Value) (W:World),W.ownsRow base 35 1 (.slice (some ⟨go,0,none⟩) L cap) L vals->(W.setCell ⟨g,o,none⟩ u).ownsRow base 35 1 (.slice (some ⟨go,0,none⟩) L cap) L vals:=λo u W h=>ownsRow_setCell_other h (by simpa[Value.ownBlock]using hne.symm) _;exact hn _ _ _ (hn _ _ _ (hn _ _ _ ho))
   . by_cases kw:m=i
     . subst kw;have hs:(R.set m ((R.getD m []).set j y)).getD m []=(R.getD m []).set j y:=by rw[List.getD_eq_getElem?_getD,List.getElem?_set_self zo];rfl
       rw[hs,e1,<-Te];exact oF (oF (oF hrow _ _) _ _) _ _
     . have hs:(R.set i ((R.getD i []).set j y)).getD m []=R.getD m []:=by rw[List.getD_eq_getElem?_getD,List.getElem?_set_ne (λe=>kw e.symm),<-List.getD_eq_getElem?_getD]
       rw[hs];have hno:vals[m].ownBlock≠some g:=λe=>kw (hd m i hm hi2 g e (by rw[e1];rfl));exact ownsRow_setCell_other (ownsRow_setCell_other (ownsRow_setCell_other (hv m hm) hno _) hno _) hno _
end Go.Proofs.YtbkopgdpcijfbaaGreatDoor
namespace Go.Proofs.YtbkopgdpcijfbaaGreatDoor
def gH (x y:Nat->Dyadic):Nat->Dyadic
 |0=>0
 |k+1=>gH x y k+(x k-y k) * (x k-y k)
def azM {x y x' y':Nat->Dyadic}(n:Nat)(hx:∀k,k<n->x k=x' k)(hy:∀k,k<n->y k=y' k):gH x y n=gH x' y' n:=by
 induction n with
 |zero=>rfl
 |succ n ih=>unfold gH;rw[ih (λk h=>hx k zo) (λk h=>hy k zo),hx n zo,hy n zo]
def azL (x y:Nat->Dyadic)(n:Nat):gH x y n=gH y x n:=by
 induction n with
 |zero=>rfl
 |succ n ih=>unfold gH;rw[ih];grind
def ai4 (x:Nat->Dyadic)(n:Nat):gH x x n=0:=by
 induction n with
 |zero=>rfl
 |succ n ih=>unfold gH;rw[ih];grind
def Tq (x:Dyadic):0<=x*x:=by
 rw[<-Dyadic.toRat_le_toRat_iff,Dyadic.toRat_mul,Dyadic.toRat_zero];generalize x.toRat=q;by_cases h:0<=q
 . exact Rat.mul_nonneg h h
 . have h2:0<= -q:=by grind
   have h3:=Rat.mul_nonneg h2 h2;have e: -q* -q=q*q:=by grind
   rwa [e]at h3
def XL (x y:Nat->Dyadic)(n:Nat):0<=gH x y n:=by
 induction n with
 |zero=>exact Tq 0
 |succ n ih=>unfold gH;have:=Tq (x n-y n);grind
def azN (x y z:Nat->Dyadic)(h:Dyadic)(hh:h+h=1)(n:Nat):gH (λk=>(x k+y k) *h) z n+gH (λk=>(x k+y k) *h) z n+gH (λk=>(x k+y k) *h) z n+gH (λk=>(x k+y k) *h) z n=gH x z n+gH x z n+gH y z n+gH y z n-gH x y n:=by
 induction n with
 |zero=>simp[gH];grind
 | succ n ih=>
   unfold gH;have e:((x n+y n) *h-z n) * ((x n+y n) *h-z n)+((x n+y n) *h-z n) * ((x n+y n) *h-z n)+((x n+y n) *h-z n) * ((x n+y n) *h-z n)+((x n+y n) *h-z n) * ((x n+y n) *h-z n)=
    (x n-z n) * (x n-z n)+(x n-z n) * (x n-z n)+(y n-z n) * (y n-z n)+(y n-z n) * (y n-z n)-(x n-y n) * (x n-y n):=by
    have e1:((x n+y n) *h-z n)+((x n+y n) *h-z n)=(x n-z n)+(y n-z n):=by grind
    generalize (x n+y n) *h-z n=m at*;have e2:m*m+m*m+m*m+m*m=(m+m) * (m+m):=by grind
    rw[e2,e1];grind
   grind
def acz (X:Dyadic):0<bg X↔0<X:=by
 have h1:=uQ X;have h2:=MQ X;have h3:bg X= -1\/bg X=0\/bg X=1:=by
  unfold bg eI;split
  . exact .inl rfl
  . split
    . exact .inr (.inl rfl)
    . exact .inr (.inr rfl)
 constructor
 . intro h;have a1:¬X<0:=λh4=>by have:=h1.2 h4;omega
   have a2:¬X=0:=λh4=>by have:=h2.2 h4;omega
   grind
 . intro h;rcases h3 with h4|h4|h4
   . have:=h1.1 zo;grind
   . have:=h2.1 h4;grind
   . omega
def avF (sq:Nat->Nat->Dyadic)(a b:Nat)(s:Nat×Nat×Dyadic):s.2.2<=(yE sq a b s).2.2/\sq a b<=(yE sq a b s).2.2:=by
 unfold yE;split
 . rename_i h
   rw[acz]at h;exact⟨by show s.2.2<=sq a b;grind,by show sq a b<=sq a b;grind⟩
 . rename_i h
   rw[acz]at h;exact⟨by grind,by grind⟩
def avD (sq:Nat->Nat->Dyadic)(a k b:Nat)(s:Nat×Nat×Dyadic):s.2.2<=(ud sq a k b s).2.2/\∀c,b<=c->c<b+k->sq a c<=(ud sq a k b s).2.2:=by
 induction k generalizing b s with
 |zero=>exact⟨by unfold ud;grind,λc h1 h2=>by omega⟩
 | succ k ih=>
   unfold ud;obtain⟨h1,h2⟩:=ih (b+1) (yE sq a b s);obtain⟨h3,h4⟩:=avF sq a b s;refine⟨by grind,λc h5 h6=>?_⟩;by_cases e:c=b
   . subst e;grind
   . exact h2 c zo zo
def avB (sq:Nat->Nat->Dyadic)(L k a:Nat)(s:Nat×Nat×Dyadic)(hk:a+k=L):s.2.2<=(sL sq L k a s).2.2/\∀c d,a<=c->c<d->d<L->sq c d<=(sL sq L k a s).2.2:=by
 induction k generalizing a s with
 |zero=>exact⟨by unfold sL;grind,λc d h1 h2 h3=>by omega⟩
 | succ k ih=>
   unfold sL;obtain⟨h1,h2⟩:=ih (a+1) (ud sq a (L-(a+1)) (a+1) s) zo;obtain⟨h3,h4⟩:=avD sq a (L-(a+1)) (a+1) s;refine⟨by grind,λc d h5 h6 h7=>?_⟩;by_cases e:c=a
   . subst e;have:=h4 d zo zo;grind
   . exact h2 c d zo h6 h7
def ahp (sq:Nat->Nat->Dyadic)(L a b:Nat)(hab:a<b)(hb:b<L):sq a b<=(cZ sq L).2.2:=(avB sq L L 0 (0,1,sq 0 1) zo).2 a b zo hab hb
def cL (n:Nat)(p:Nat->Nat->Dyadic)(a b:Nat):Dyadic:=gH (p a) (p b) n
def nO (n:Nat)(m:Dyadic)(c:Nat)(p:Nat->Nat->Dyadic):Prop:=
 (∀a b,a<=n->b<=n->cL n p a b<=m)/\∃old:List Nat,old.length<=c/\old.Nodup/\∀a b,a<=n->b<=n->a≠b->¬(a∈old/\b∈old)->cL n p a b+cL n p a b+cL n p a b+cL n p a b<=m+m+m
def nO.start (n:Nat)(m:Dyadic)(p:Nat->Nat->Dyadic)(h:∀a b,a<=n->b<=n->cL n p a b<=m):nO n m (n+1) p:=
 ⟨h,List.range (n+1),by simp,List.nodup_range,λa b ha hb hab hn=>absurd ⟨by simp;omega,by simp;omega⟩ hn⟩
def nO.done {n:Nat}{m:Dyadic}{c:Nat}{p:Nat->Nat->Dyadic}(h:nO n m c p)(hc:c<=1)(a b:Nat)(ha:a<=n)(hb:b<=n)(hab:a≠b):cL n p a b+cL n p a b+cL n p a b+cL n p a b<=m+m+m:=by
 obtain⟨_,old,h1,h2,h3⟩:=h;refine h3 a b ha hb hab (λ⟨h4,h5⟩=>?_);match old,h1,h4,h5 with
 |[],_,h4,_=>cases h4
 |[x],_,h4,h5=>simp at h4 h5;omega
 |x::y::l,h1,_,_=>simp at h1;omega
def awd (n:Nat)(p:Nat->Nat->Dyadic)(h:Dyadic)(hh:h+h=1)(i j v b:Nat)(hb:b≠v):cL n (jN p h i j v) v b+cL n (jN p h i j v) v b+cL n (jN p h i j v) v b+cL n (jN p h i j v) v b=cL n p i b+cL n p i b+cL n p j b+cL n p j b-cL n p i j:=by
 have e1:jN p h i j v v=λk=>(p i k+p j k) *h:=by funext k;unfold jN;rw[if_pos rfl]
 have e2:jN p h i j v b=p b:=by funext k;unfold jN;rw[if_neg hb]
 unfold cL;rw[e1,e2];exact azN (p i) (p j) (p b) h hh n
def ahK (n:Nat)(p:Nat->Nat->Dyadic)(h:Dyadic)(i j v a b:Nat)(ha:a≠v)(hb:b≠v):cL n (jN p h i j v) a b=cL n p a b:=by
 have e1:jN p h i j v a=p a:=by funext k;unfold jN;rw[if_neg ha]
 have e2:jN p h i j v b=p b:=by funext k;unfold jN;rw[if_neg hb]
 unfold cL;rw[e1,e2]
def XM (n:Nat)(p:Nat->Nat->Dyadic)(a b:Nat):cL n p a b=cL n p b a:=azL _ _ _
def nO.step {n:Nat}{m:Dyadic}{c:Nat}{p:Nat->Nat->Dyadic}(h0:nO n m c p)(h:Dyadic)(hh:h+h=1)(i j v:Nat)(hij:i≠j)(hi:i<=n)(hj:j<=n)(hv:v=i\/v=j)(hmax:∀a b,a<=n->b<=n->cL n p a b<=cL n p i j):
 nO n m (c-1) (jN p h i j v):=by
 obtain⟨h1,old,h2,h3,h4⟩:=h0;have hY0:0<=cL n p i j:=XL _ _ _;have hYm:=h1 i j hi hj;have hnew:∀b,b<=n->b≠v->cL n (jN p h i j v) v b+cL n (jN p h i j v) v b+cL n (jN p h i j v) v b+cL n (jN p h i j v) v b<=cL n p i j+cL n p i j+cL n p i j:=by intro b hb UJ;rw[awd n p h hh i j v b UJ];have a1:=hmax i b hi hb;have a2:=hmax j b hj hb;grind
 have aus:∀(q:Nat->Nat->Dyadic) a,cL n q a a=0:=λq a=>ai4 _ _;have hnn:∀(q:Nat->Nat->Dyadic) a b,0<=cL n q a b:=λq a b=>XL _ _ _;have hall:∀a b,a<=n->b<=n->cL n (jN p h i j v) a b<=cL n p i j:=by
  intro a b ha hb;by_cases ea:a=v
  . by_cases eb:b=v
    . rw[ea,eb,aus];exact hY0
    . subst ea;have:=hnew b hb eb;grind
  . by_cases eb:b=v
    . subst eb;rw[XM];have:=hnew a ha ea;grind
    . rw[ahK n p h i j v a b ea eb];exact hmax a b ha hb
 refine⟨λa b ha hb=>by have:=hall a b ha hb;grind,?_⟩;by_cases hsm:cL n p i j+cL n p i j+cL n p i j+cL n p i j<=m+m+m
 . exact⟨[],Nat.zero_le _,List.nodup_nil,λa b ha hb _ _=>by have:=hall a b ha hb;grind⟩
 . have hio:i∈old/\j∈old:=Classical.byContradiction λhc=>hsm (h4 i j hi hj hij hc);have VT:v∈old:=by rcases hv with rfl|rfl<;>simp[hio]
   refine⟨old.erase v,by rw[List.length_erase_of_mem VT];omega,h3.erase _,λa b ha hb hab hn=>?_⟩;by_cases ea:a=v
   . subst ea;have:=hnew b hb (λe=>hab e.symm);grind
   . by_cases eb:b=v
     . subst eb;rw[XM];have:=hnew a ha ea;grind
     . rw[ahK n p h i j v a b ea eb];refine h4 a b ha hb hab (λ⟨h5,h6⟩=>hn ⟨?_,?_⟩)
       . exact(List.mem_erase_of_ne ea).2 h5
       . exact(List.mem_erase_of_ne eb).2 h6
end Go.Proofs.YtbkopgdpcijfbaaGreatDoor
namespace Go.Proofs.YtbkopgdpcijfbaaGreatDoor
open Go.RowKit
attribute [local go_sem ↓] Go.wp_at_zero Go.wp_at_succ
def Tryz.aGH :(Tryz.prog.info? 2).map (λi=>(i.zero,i.size,i.bytes))=some (some (af 0),1,8):=by kernel_rfl
def js (n:Nat)(f:Nat->Nat):List Value:=(List.range n).map λj=>af (f j:Int)
def auN (n:Nat)(f:Nat->Nat):(js n f).length=n:=by simp[js]
def CE (n:Nat)(f:Nat->Nat)(j:Nat)(h:j<n):(js n f)[j]?=some (af (f j:Int)):=by simp[js,List.getElem?_range h]
def OM {n:Nat}{f g:Nat->Nat}(h:∀j,j<n->f j=g j):js n f=js n g:=by unfold js;refine List.map_congr_left λj hj=>?_;rw[h j (by simpa using hj)]
def ag2 (n:Nat)(f:Nat->Nat)(i x:Nat):(js n f).set i (af (x:Int))=js n (λj=>if j=i then x else f j):=by
 apply List.ext_getElem?;intro j;rw[List.getElem?_set,auN];by_cases h:j<n
 . rw[CE _ _ _ h,CE _ _ _ h];by_cases e:i=j
   . subst e;simp[h]
   . simp[e,Ne.symm e]
 . by_cases e:i=j
   . subst e;simp[js,h]
   . simp[e,js,h]
def auO (n:Nat):List.replicate n (Value.int .i64 0)=js n λ_=>0:=by
 apply List.ext_getElem?;intro j;by_cases h:j<n
 . rw[CE _ _ _ h];simp[h]
 . simp[js,h]
def awk (c:Int)(n:Nat)(hc:c=n)(h:n<=1099511627776)(w:World):
 (Instr.makeSlice 180 (af c) (af c)).run Tryz.prog w=.ok (.slice (some ⟨w.heap.size,0,none⟩) n n) (w.alloc (.cells (js n λ_=>0).toArray 2)):=by
 subst hc;obtain⟨i0,hi,hz0,hz1,hz2⟩:=info_parts Tryz.aGH;rw[run_make (P:=Tryz.prog) w 180 2 i0 _ Tryz.underlying180 hi hz0 .i64 .i64 n n zo zo (by rw[hz2];omega) zo];simp only[Int.toNat_natCast,hz1,Nat.mul_one];rw[<-auO,<-toList_madeCells_one];simp[Value.cells]
def ME (n k:Nat):ch n k<=2^n:=by
 induction n generalizing k with
 |zero=>cases k<;>simp[ch]
 | succ n ih=>cases k with
   |zero=>rw[wm];exact Nat.pow_pos zd
   |succ k=>rw[ch,Nat.pow_succ];have:=ih k;have:=ih (k+1);omega
def zL (i k j:Nat):Nat:=if k<j then ch (i+1) j else ch i j
def ap6 (n:Nat)(hn:n<=20)(w:World):
 Cl 164 #[af (n:Int)] w λe w'=>e=.returned (.slice (some ⟨w.heap.size,0,none⟩) (n+1) (n+1))/\ar w' w.heap.size 2 (js (n+1) (ch n))/\Bw w w':=by
 have hmk:=awk ((n:Int)+1) (n+1) zo zo;have h0:(js (n+1) λ_=>0).set 0 (af 1)=js (n+1) (ch 0):=by
  have:=ag2 (n+1) (λ_=>0) 0 1;rw[show((1:Nat):Int)=1 from rfl]at this;rw[this];refine OM (λj _=>?_);cases j with
  |zero=>rfl
  |succ j=>rfl
 obtain⟨W,hW⟩:=aB ((w.alloc (.cells (js (n+1) λ_=>0).toArray 2)).setCell ⟨w.heap.size,0,none⟩ (af 1));have hB:ar W w.heap.size 2 (js (n+1) (ch 0)):=by rw[<-hW,<-h0];exact(ar.new w _ _).set 0 _
 have hbl:Bw w W:=by rw[<-hW];exact zl.setCell zm _
 have n0:(w.alloc (.cells (js (n+1) λ_=>0).toArray 2)).cell? ⟨w.heap.size,0,none⟩=some (af 0):=by rw[(ar.new w _ _).cell 0,CE _ _ _ zo];rfl
 have nf:(w.alloc (.cells (js (n+1) λ_=>0).toArray 2)).frozen? ⟨w.heap.size,0,none⟩=false:=(ar.new w _ _).free 0;obtain⟨HB,Hbl⟩:=aK hB hbl;clear h0 hB hbl;go_enter Tryz.func164,Tryz.ntmps164;go_wp2_with fail;go_loopw[4,5,12] (λ_ _ i wr=>∃k:Nat,k<=n/\i=af (k:Int)/\ar wr w.heap.size 2 (js (n+1) (ch k))/\Bw w wr) (λ_ _ i _=>n-(intOf i).toNat);case atStart=>exact⟨0,Nat.zero_le _,rfl,HB.out,Hbl.out⟩
 case round=>
  obtain⟨k,hk,rfl,pB,pb⟩:=hrel;by_cases hlt:k<n
  . go_wp2_with fail;go_loopw[5] (fun i wr=>∃m:Nat,m<=k+1/\i=af (m:Int)/\ar wr w.heap.size 2 (js (n+1) (zL k m))/\Bw w wr) (fun i _=>(intOf i).toNat);case atStart=>
     refine⟨k+1,Nat.le_refl _,by go_num,?_,pb⟩;rw[OM (g:=ch k) (λj _=>?_)]
     . exact pB
     . unfold zL;split
       . rw[MD _ _ zo,MD _ _ zo]
       . rfl
    case round=>
     obtain⟨m,hm,rfl,qB,qb⟩:=hrel;clear pB pb n0 nf;by_cases hp:0<m
     . have c0:wr.cell? ⟨w.heap.size,m,none⟩=some (af (ch k m:Int)):=by rw[qB.cell,CE _ _ _ zo];unfold zL;rw[if_neg zo]
       have c1:wr.cell? ⟨w.heap.size,m-1,none⟩=some (af (ch k (m-1):Int)):=by rw[qB.cell,CE _ _ _ zo];unfold zL;rw[if_neg zo]
       have fz:wr.frozen? ⟨w.heap.size,m,none⟩=false:=qB.free _;have l1:ch k m<=1048576:=Nat.le_trans (ME k m) (Nat.pow_le_pow_right zd (show k<=20 by omega));have l2:ch k (m-1)<=1048576:=Nat.le_trans (ME k (m-1)) (Nat.pow_le_pow_right zd (show k<=20 by omega));have hs:ch k m+ch k (m-1)=ch (k+1) m:=by obtain⟨m',rfl⟩:∃m',m=m'+1:=⟨m-1,by omega⟩;rw[Nat.add_sub_cancel,ch];omega
       have lw:=qB.set m (af ((ch (k+1) m:Nat):Int))
       rw[ag2,OM (g:=zL k (m-1)) (λj _=>by
        unfold zL;by_cases e:j=m
        . subst e;rw[if_pos rfl,if_pos zo]
        . rw[if_neg e];by_cases e2:m<j
          . rw[if_pos e2,if_pos zo]
          . rw[if_neg e2,if_neg zo])]at lw
       rw[<-hs]at lw;have ub:=Kg (n+1) (n+1) m (m:Int) (rfl:(some ⟨w.heap.size,0,none⟩:Option Addr)=_) zo rfl;have Ay:=Kg (n+1) (n+1) (m-1) ((m:Int)-1) (rfl:(some ⟨w.heap.size,0,none⟩:Option Addr)=_) zo zo;rw[Nat.mul_one,Nat.zero_add]at ub Ay;have e0:((ch k m+ch k (m-1):Nat):Int)=(ch k m:Int)+(ch k (m-1):Int):=by omega
       rw[e0]at lw;have am8:=aj lw;clear lw hs e0;generalize hA:(ch k m:Int)=A at*;generalize tE:(ch k (m-1):Int)=A2 at*;have b1:0<=A/\A<=1048576:=by omega
       have b2:0<=A2/\A2<=1048576:=by omega
       clear hA tE l1 l2;go_wp2;go_region
       go_wp2;go_roundw;case rel=>
        refine⟨m-1,by omega,by go_num,?_,?_⟩
        . exact am8.out
        . exact Below.drew (qb.setCell zp _)
       case measure=>exact bC
     . obtain rfl:m=0:=by omega
       go_wp2;go_roundw;case rel=>
        refine⟨k+1,by omega,by go_num,?_,qb⟩;rw[OM (g:=zL k 0) (λj _=>?_)]
        . exact qB
        . unfold zL;split
          . rfl
          . obtain rfl:j=0:=by omega
            rw[wm,wm]
       case measure=>exact bC
  . obtain rfl:k=n:=by omega
    go_wp2;go_ret;exact⟨rfl,pB,pb⟩
end Go.Proofs.YtbkopgdpcijfbaaGreatDoor
namespace Go.Proofs.YtbkopgdpcijfbaaGreatDoor
open Go.RowKit
def Xe {V:Int}{ts:List Trm}(h:mC V ts=0):0<=V/\V<=12/\ts.length<=4096/\∀t∈ts,(t.1.length:Int)=V/\∀c∈t.1,c.toNat<=127:=by
 unfold mC at h;by_cases h1:0<=V/\V<=12
 . rw[if_neg (λh=>h h1)]at h;by_cases h2:4096<ts.length
   . rw[if_pos h2]at h;cases h
   . rw[if_neg h2]at h;by_cases h3:(List.range ts.length).all (nS V ts)=true
     . refine⟨h1.1,h1.2,by omega,λt ht=>?_⟩;obtain⟨k,hk,rfl⟩:=List.mem_iff_getElem.1 ht;rw[List.all_eq_true]at h3;have h4:=h3 k (List.mem_range.2 hk);have e:ts.getD k default=ts[k]:=by simp[List.getD_eq_getElem?_getD,hk]
       unfold nS zR at h4;rw[e]at h4;simp only[Bool.and_eq_true]at h4;have h5:=h4.1.1.1;unfold fQ at h5;rw[Bool.and_eq_true,List.all_eq_true]at h5;exact⟨of_decide_eq_true h5.2,λc hc=>of_decide_eq_true (h5.1 c hc)⟩
     . rw[if_neg h3]at h;cases h
 . rw[if_pos h1]at h;cases h
def aAY (ts:List Trm)(h:∀k (h:k+1<ts.length),Op.bytesLess (ts[k]'zo).1 ts[k+1].1=true):Up ts:=by
 unfold Up;rw[List.pairwise_iff_getElem];intro i j hi hj hij;obtain⟨d,rfl⟩:∃d,j=i+1+d:=⟨j-(i+1),by omega⟩;induction d with
 |zero=>exact h i hj
 |succ d ih=>exact Mw (ih zo zo) (h (i+1+d) hj)
def axN {V:Nat}{ts:List Trm}(h:mC (V:Int) ts=0):Ml V ts:=by
 obtain⟨h1,h2,h3,h4⟩:=Xe h;have hall:(List.range ts.length).all (nS (V:Int) ts)=true:=by
  unfold mC at h;rw[if_neg zo,if_neg zo]at h;by_cases h9:(List.range ts.length).all (nS (V:Int) ts)=true
  . exact h9
  . rw[if_neg h9]at h;cases h
 rw[List.all_eq_true]at hall;have hg:∀k (hk:k<ts.length),zR (V:Int) ts[k].1 ts[k].2=true/\(0<k->Op.bytesLess (ts[k-1]'zo).1 ts[k].1=true):=λk hk=>by
  have h5:=hall k (List.mem_range.2 hk);unfold nS at h5;rw[show ts.getD k default=ts[k]by simp[List.getD_eq_getElem?_getD,hk],show ts.getD (k-1) default=ts[k-1]'zo by simp[List.getD_eq_getElem?_getD,show k-1<ts.length by omega]]at h5;simp only[Bool.and_eq_true,Bool.or_eq_true,beq_iff_eq,jT]at h5;refine⟨h5.1,λh0=>?_⟩;rcases h5.2 with h6|h6
  . omega
  . exact h6
 refine⟨⟨aAY ts (λk hk=>by have:=(hg (k+1) hk).2 zo;simpa using this),λt ht=>?_⟩,λt ht=>?_,h3,by omega⟩;all_goals
  obtain⟨k,hk,rfl⟩:=List.mem_iff_getElem.1 ht
  have h5:=(hg k hk).1
  unfold zR at h5
  simp only[Bool.and_eq_true,Bool.not_eq_true',beq_iff_eq]at h5
 . exact⟨(Iy _).1 h5.1.2,h5.2.symm⟩
 . exact h5.1.1
end Go.Proofs.YtbkopgdpcijfbaaGreatDoor
namespace Go.Proofs.YtbkopgdpcijfbaaGreatDoor
def rf (a b:List UInt8):List UInt8:=List.zipWith (λx y=>UInt8.ofNat (x.toNat+y.toNat)) a b
def abe (a b:List UInt8)(n:Nat)(ha:a.length=n)(hb:b.length=n):(rf a b).length=n:=by simp[rf,ha,hb]
def aot (a b:List UInt8)(i:Nat)(h:i<(rf a b).length)(hs:(a.getD i 0).toNat+(b.getD i 0).toNat<=255):((rf a b)[i]).toNat=(a.getD i 0).toNat+(b.getD i 0).toNat:=by
 have h1:i<a.length:=by simp[rf]at h;omega
 have h2:i<b.length:=by simp[rf]at h;omega
 simp only[rf,List.getElem_zipWith];simp only[List.getD_eq_getElem?_getD,List.getElem?_eq_getElem h1,List.getElem?_eq_getElem h2,Option.getD_some]at hs⊢;simp;omega
def aou (a b:List UInt8)(n:Nat)(ha:a.length=n)(hb:b.length=n)(hs:∀i,i<n->(a.getD i 0).toNat+(b.getD i 0).toNat<=127):∀c∈rf a b,c.toNat<=127:=λc hc=>by
 obtain⟨i,hi,rfl⟩:=List.mem_iff_getElem.1 hc;have hi':i<n:=by rw[abe a b n ha hb]at hi;exact hi
 rw[aot a b i hi (by have:=hs i hi';omega)];exact hs i hi'
abbrev rM (l:List UInt8):Nat:=(l.map UInt8.toNat).sum
def Yc (l:List UInt8)(i:Nat):(l.getD i 0).toNat<=rM l:=by
 induction l generalizing i with
 |nil=>simp
 | cons c l ih=>
   unfold rM;rw[List.map_cons,List.sum_cons];cases i with
   |zero=>simp
   |succ i=>have:=ih i;unfold rM at this;simp only[List.getD_cons_succ];omega
def aov (a b:List UInt8)(n:Nat)(ha:a.length=n)(hb:b.length=n)(h:rM a+rM b<=127):rM (rf a b)=rM a+rM b:=by
 induction a generalizing b n with
 | nil=>
   obtain rfl:n=0:=by simpa using ha.symm
   obtain rfl:b=[]:=List.eq_nil_of_length_eq_zero hb;rfl
 | cons x a ih=>cases b with
   |nil=>simp at ha hb;omega
   | cons y b=>
     simp only[rM,List.map_cons,List.sum_cons]at h;have h1:=ih b a.length rfl (by simp at ha hb;omega) (by unfold rM;omega);unfold rM at h1⊢;have e:rf (x::a) (y::b)=UInt8.ofNat (x.toNat+y.toNat)::rf a b:=rfl;have e2:(UInt8.ofNat (x.toNat+y.toNat)).toNat=x.toNat+y.toNat:=by simp;omega
     rw[e,List.map_cons,List.sum_cons,h1,e2,List.map_cons,List.sum_cons,List.map_cons,List.sum_cons];omega
def AK (ta tb:List Trm):List Trm:=ta.flatMap λx=>tb.map λy=>(rf x.1 y.1,canon (au x.2*au y.2))
def awt (ta tb:List Trm):(AK ta tb).length=ta.length*tb.length:=by
 unfold AK;rw[List.length_flatMap];induction ta with
 |nil=>simp
 |cons x ta ih=>rw[List.map_cons,List.sum_cons,ih,List.length_map,List.length_cons,Nat.succ_mul];omega
def ahT {ta tb:List Trm}{t:Trm}(h:t∈AK ta tb):∃x∈ta,∃y∈tb,t=(rf x.1 y.1,canon (au x.2*au y.2)):=by unfold AK at h;obtain⟨x,hx,h⟩:=List.mem_flatMap.1 h;obtain⟨y,hy,e⟩:=List.mem_map.1 h;exact⟨x,hx,y,hy,e.symm⟩
def awu {A B:Nat}{ta tb:List Trm}(ha:∀t∈ta,Sm A (au t.2))(hb:∀t∈tb,Sm B (au t.2)):∀t∈AK ta tb,Sm (A+B) (au t.2):=λt ht=>by obtain⟨x,hx,y,hy,rfl⟩:=ahT ht;rw[bF];exact Sm.mul (ha x hx) (hb y hy)
def Kq {l:List UInt8}{V:Nat}(h:fQ l (V:Int)=true):l.length=V/\∀c∈l,c.toNat<=127:=by unfold fQ at h;simp only[Bool.and_eq_true,List.all_eq_true,decide_eq_true_eq]at h;exact⟨by have:=h.2;omega,h.1⟩
def av9 {l:List UInt8}{V:Nat}(h1:l.length=V)(h2:∀c∈l,c.toNat<=127):fQ l (V:Int)=true:=by unfold fQ;simp only[Bool.and_eq_true,List.all_eq_true,decide_eq_true_eq];exact⟨h2,by omega⟩
def nH (V d:Nat)(ts:List Trm):Prop:=∀t∈ts,fQ t.1 (V:Int)=true/\rM t.1<=d
def nH.mul {V d e:Nat}{ta tb:List Trm}(ha:nH V d ta)(hb:nH V e tb)(h:d+e<=127):nH V (d+e) (AK ta tb):=λt ht=>by
 obtain⟨x,hx,y,hy,rfl⟩:=ahT ht;obtain⟨h1,h2⟩:=ha x hx;obtain⟨h3,h4⟩:=hb y hy;have l1:=(Kq h1).1;have l2:=(Kq h3).1;refine⟨av9 (abe _ _ V l1 l2) (aou _ _ V l1 l2 (λi _=>?_)),?_⟩
 . have:=Yc x.1 i;have:=Yc y.1 i;omega
 . have:=aov x.1 y.1 V l1 l2 zo;show rM (rf x.1 y.1)<=_;omega
def nH.clean {V d:Nat}{ts:List Trm}(h:nH V d ts):nH V d (cg ts):=λt ht=>by obtain⟨y,hy,e⟩:=abS _ t ht;rw[<-e];exact h y hy
def nH.append {V d:Nat}{a b:List Trm}(ha:nH V d a)(hb:nH V d b):nH V d (a++b):=λt ht=>by
 rcases List.mem_append.1 ht with h|h
 . exact ha t h
 . exact hb t h
def nH.mono {V d e:Nat}{a:List Trm}(ha:nH V d a)(h:d<=e):nH V e a:=λt ht=>⟨(ha t ht).1,Nat.le_trans (ha t ht).2 h⟩
end Go.Proofs.YtbkopgdpcijfbaaGreatDoor
