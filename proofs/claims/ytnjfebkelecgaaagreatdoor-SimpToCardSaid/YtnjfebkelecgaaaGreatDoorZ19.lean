/- The reference of chapter 15: Det. -/
import Derived.Test.YtnjfebkelecgaaaGreatDoorZ7
import Derived.Test.YtnjfebkelecgaaaGreatDoorZ9
import Derived.Test.YtnjfebkelecgaaaGreatDoorZ12
import Derived.Test.YtnjfebkelecgaaaGreatDoorZ15
import Derived.Test.YtnjfebkelecgaaaGreatDoorZ17
import Derived.Test.YtnjfebkelecgaaaGreatDoorZ14
set_option linter.all false
set_option maxRecDepth 100000
set_option maxHeartbeats 16000000
namespace Go.Proofs.YtnjfebkelecgaaaGreatDoor
open Go.RowKit
attribute [local go_sem ↓] Go.wp_at_zero Go.wp_at_succ
def At.pre {w:World}{a:Option Addr}{xs ys:List Value}(h:At w a (xs++ys)):At w a xs:=by
 rcases h with h|⟨b,o,rfl,hc⟩
 . exact .inl (List.append_eq_nil_iff.1 h).1
 . by_cases h0:xs=[]
   . exact .inl h0
   . refine .inr ⟨b,o,rfl,λj hj=>?_⟩;rw[hc j (by rw[List.length_append];omega),List.getElem?_append_left hj]
def zU (x:List Raw):(x.flatMap bK).length=x.length*3:=nU bK 3 (λ_=>rfl) x
def atQ (x:List Raw)(k:Nat)(hk:k<=x.length):(x.drop k).flatMap bK=(x.flatMap bK).drop (k*3):=by
 have e0:x.flatMap bK=(x.take k).flatMap bK++(x.drop k).flatMap bK:=by rw[<-List.flatMap_append,List.take_append_drop]
 have e1:((x.take k).flatMap bK).length=k*3:=by rw[zU,List.length_take,Nat.min_eq_left hk]
 rw[e0,<-e1,List.drop_left]
def At.aCP {w:World}{a:Option Addr}{x:List Raw}(h:At w a (x.flatMap bK))(k:Nat):At w a ((x.take k).flatMap bK):=by
 have e0:x.flatMap bK=(x.take k).flatMap bK++(x.drop k).flatMap bK:=by rw[<-List.flatMap_append,List.take_append_drop]
 rw[e0]at h;exact h.pre
def At.aCD {w:World}{a:Option Addr}{x:List Raw}{n cap:Nat}(h:At w a (x.flatMap bK))(k:Nat)(hn:x.length=n)(hk:k<=n)(hc:n<=cap):At w (if cap=k then a else a.map (·.add (k*3))) ((x.drop k).flatMap bK):=by rw[atQ x k zo];exact At.cut (size:=3) (n:=n) h (by rw[zU,hn]) hk hc
def apo {B:Nat}{R:List (List Dyadic)}{n:Nat}(hL:R.length=n)(hrow:∀x∈R,x.length=n)(hsm:∀x∈R,∀d∈x,Sm B d)(i j:Nat)(hi:i<n)(hj:j<n):Sm B (cj R i j):=by
 have hk:i<R.length:=by omega
 have hk2:j<R[i].length:=by rw[hrow _ (List.getElem_mem hk)];exact hj
 have e:cj R i j=R[i][j]:=by unfold cj;simp[List.getD_eq_getElem?_getD,hk,hk2]
 rw[e];exact hsm _ (List.getElem_mem hk) _ (List.getElem_mem hk2)
def apm {R:List (List Dyadic)}(i j:Nat)(hi:i<R.length)(hj:j<R[i].length):cj R i j=R[i][j]:=by unfold cj;simp[List.getD_eq_getElem?_getD,hi,hj]
def avW {B m:Nat}{e:Nat->Nat->Dyadic}(hm:m+1<=4)(h:∀i j,i<m+1->j<m+1->Sm B (e i j))(k:Nat):k<=m+1->Sm (5*B+6+k) (oz (cX m) e k):=by
 induction k with
 |zero=>intro _;exact Sm.zero _
 | succ k ih=>
   intro hk;have h1:=ih zo;have h2:Sm (4*B+6) (cX m (gL e 0 k)):=Dr zo (λa b ha hb=>h _ _ (by split<;>omega) (by split<;>omega));have h3:Sm (5*B+6+k) (e 0 k*cX m (gL e 0 k)):=(Sm.mul (h 0 k zo zo) h2).mono zo;rw[oz];split
   . exact Sm.add h1 h3.neg
   . exact Sm.add h1 h3
def mR.aCE {w:World}{a:Option Addr}{R:List (List Dyadic)}{n:Nat}(h:mR w a (R.map λx=>x.map canon))(hL:R.length=n)(hrow:∀x∈R,x.length=n)(i:Nat)(hi:i<n):
 ∃b o b1 o1 c1,∃x:List Raw,a=some ⟨b,o,none⟩/\(R.getD i []).map canon=x/\x.length=n/\w.cell? ⟨b,o+i,none⟩=some (.slice (some ⟨b1,o1,none⟩) n c1)/\At w (some ⟨b1,o1,none⟩) (x.flatMap bK)/\n<=c1:=by
 have hk:i<R.length:=by omega
 obtain⟨b,o,a1,c1,h1,h2,h3,h4⟩:=h.row i (by simp[hk]);have e1:(R.map λx=>x.map canon)[i]'(by simp[hk])=R[i].map canon:=by simp
 have hxl:=hrow _ (List.getElem_mem hk);rw[e1]at h2 h3 h4;rw[List.length_map,hxl]at h2 h4;rcases h3 with h3|⟨b1,o1,rfl,h3⟩
 . have:=congrArg List.length h3;rw[zU,List.length_map,hxl]at this;simp at this;omega
 . exact⟨b,o,b1,o1,c1,_,h1,rfl,by simp[List.getD_eq_getElem?_getD,hk,hxl],h2,by simp only[List.getD_eq_getElem?_getD,List.getElem?_eq_getElem hk,Option.getD_some];exact .inr ⟨b1,o1,rfl,h3⟩,h4.1⟩
def ath (R:List (List Dyadic))(k m:Nat)(hL:R.length=m+1)(j:Nat)(hj:j<m):((iP R 0 k).map λx=>x.map canon).getD j []=((R.getD (j+1) []).map canon).take k++((R.getD (j+1) []).map canon).drop (k+1):=by
 have h:=VP R 0 k m hL zo j hj;rw[if_neg zo]at h;have hl:j<(iP R 0 k).length:=by rw[JP R 0 k m hL zo];exact hj
 have h2:(iP R 0 k)[j]=(R.getD (j+1) []).eraseIdx k:=by rw[<-h];simp[List.getD_eq_getElem?_getD,hl]
 rw[<-List.eraseIdx_eq_take_drop_succ,abq,<-h2];simp[List.getD_eq_getElem?_getD,hl]
def avI (n:Nat):n<=4->∀(a:Option Addr) (cap B:Nat) (R:List (List Dyadic)) (w:World),R.length=n->(∀x∈R,x.length=n)->(∀x∈R,∀d∈x,Sm B d)->B<=2000->mR w a (R.map λx=>x.map canon)->Sl a n cap->
 Cv 130 #[.slice a n cap] w (cw (cX n (cj R))):=by
 induction n with
 | zero=>
   intro _ a cap B R w _ _ _ _ _ _;obtain⟨D,hD⟩:∃D:Dyadic,Dyadic.ofIntWithPrec 1 0=D:=⟨_,rfl⟩;have hD1:cX 0 (cj R)=D:=by rw[<-hD];rfl
   have hof:∀W,Cv 50 #[ah 1] W (cw D):=λW=>WE 1 D hD W zd;rw[hD1];have mM:=az hof;clear hof hD hD1;obtain⟨W,cP,ag,aC⟩:=gz w 48 [aj false,.string ⟨#[]⟩,ah 0];go_enter Tryz.func130,Tryz.ntmps130;go_wp2_with fail;refine aZ ag (mM.out _) λw1 ag aC=>?_;go_wp2;refine eH (bG w1 (w.heap.size) 0 (bY D)) bM ?_;intro w9 hs0;have ag:=cH hs0 ag;simp only[cB,List.set]at ag;have aC:=qC ag;refine bodyPost_ret (v:=cw D) (by simp[results,Tryz.results130,go_sem,aC]) rfl ⟨rfl,ag.1.out⟩
 | succ m ih=>
   intro hm a cap B R w hL hrow hsm hB ha hsl;obtain⟨i0,hi,hz0,hz1,hz2⟩:=info_parts Tryz.aCm;obtain⟨j0,hj,hy0,hy1,hy2⟩:=info_parts Tryz.aCq;have hG:cX (m+1) (cj R)=oz (cX m) (cj R) (m+1):=by rw[<-agN (m+1) hm,<-(funext (λe=>agN m zo e):pE m=cX m)];rfl
   have hent:=apo hL hrow hsm;have Bo:=avW (B:=B) (e:=cj R) hm hent;have Tf:oz (cX m) (cj R) 0=0:=rfl;have Dy:∀k,oz (cX m) (cj R) (k+1)=oz (cX m) (cj R) k+(if k%2=1 then-(cj R 0 k*cX m (gL (cj R) 0 k))else cj R 0 k*cX m (gL (cj R) 0 k)):=λk=>rfl;have hV:∀k,k<m+1->Sm (4*B+6) (cX m (gL (cj R) 0 k)):=λk hk=>Dr zo (λa b ha hb=>hent _ _ (by split<;>omega) (by split<;>omega));have vA:=λk (hk:k<m+1) a' c' W (h1:mR W a' ((iP R 0 k).map λx=>x.map canon)) (h2:Sl a' m c')=>ih zo a' c' B (iP R 0 k) W (JP R 0 k m hL zo) (VQ R 0 k m hrow zo) (afW hsm 0 k) hB h1 h2;have TZ:=λk (hk:k<m+1)=>afV R 0 k m hL hrow zo zo zo;have xm:=λW (hW:Bw w W) i (hi:i<m+1)=>(ha.below hW).aCE hL hrow i hi;have hmr:=λk j (hj:j<m)=>ath R k m hL j hj;have xf:=λk=>JP R 0 k m hL zo;have ny:∀k (hk:k<m+1) (x:List Raw),(R.getD 0 []).map canon=x->∀(h:k<x.length),x[k]=canon (cj R 0 k):=by
    rintro k hk x rfl h;have h0:0<R.length:=by omega
    have hk2:k<R[0].length:=by rw[hrow _ (List.getElem_mem h0)];exact hk
    rw[apm 0 k h0 hk2];simp[List.getD_eq_getElem?_getD,h0]
   have hU:∀k,k<m+1->Sm B (cj R 0 k):=λk hk=>hent 0 k zo hk;rw[hG];obtain⟨G,Tg⟩:=aI (oz (cX m) (cj R));obtain⟨U,hUU⟩:=aI (cj R 0);obtain⟨V,Ij⟩:∃V:Nat->Dyadic,(λk=>cX m (gL (cj R) 0 k))=V:=⟨_,rfl⟩;have Ik:∀k,cX m (gL (cj R) 0 k)=V k:=λk=>by rw[<-Ij]
   simp only[Ik,hUU,Tg]at Bo Tf Dy hV TZ ny hU;rw[Tg];have Ua:∀k,k<m+1->∀a' c' W,mR W a' ((iP R 0 k).map λx=>x.map canon)->Sl a' m c'->Cv 130 #[.slice a' m c'] W (cw (V k)):=λk hk a' c' W h1 h2=>by have h:=vA k hk a' c' W h1 h2;rwa [TZ k hk]at h
   clear vA TZ hent hG Ik Ij hUU Tg ih ha hsm hrow;obtain⟨N,hN⟩:=aI (m+1);rw[hN]at hsl Bo hV xm ny hU Ua⊢;have hcap:=hsl.1;have hN4:N<=4:=by omega
   have hNp:1<=N:=by omega
   obtain⟨Hi,cV,cW,cC,Hj,kP,lN,kj,HGm,Py,Pz,HV⟩:=fu hi hz0 hz1 hz2 hj hy0 hy1 hy2 Bo Tf Dy hV;obtain⟨HU,Hdt,LB,Hmr,Hml,Hr0,HN⟩:=kH hU Ua xm hmr xf ny hN;have hmN:m<N:=by omega
   clear hi hz0 hz1 hz2 hj hy0 hy1 hy2 Bo Tf Dy hV hU Ua xm hmr xf ny hN hL hsl;have hN0:((N:Int)==0)=false:=by simp;omega
   have Tj:¬N=0:=by omega
   obtain⟨W,cP,ag,aC⟩:=jq w 48 [aj false,.string ⟨#[]⟩,ah 0] 48 [aj false,.string ⟨#[]⟩,ah 0];go_enter Tryz.func130,Tryz.ntmps130;go_wp2_with fail;first|refine eO (bG W (w.heap.size+1) 0 [aj false,.string ⟨#[]⟩,ah 0]) bM ?_|refine fB (bG W (w.heap.size+1) 0 [aj false,.string ⟨#[]⟩,ah 0]) bM ?_
   intro w1 hs0;have ag:=cH hs0 ag;simp only[cB,List.set]at ag;have aC:=qC ag;have lr:=ag.2.1.out.lt;have ls:=ag.2.2.1.out.lt;go_wp2_with fail;go_loopw[4] (λi wr=>∃(k:Nat) (X:Dyadic),k<=N/\i=ah (k:Int)/\G k=X/\aH wr w.heap.size 48 [aj false,.string ⟨#[]⟩,ah 0]/\aH wr (w.heap.size+1) 48 (bK (canon X))/\Bw w wr) (λi _=>N-(intOf i).toNat);case atStart=>exact⟨0,0,Nat.zero_le _,rfl,Py.out,ag.2.1.out,ag.2.2.1.out,ag.1.out⟩
   case round=>
    skip
    obtain⟨k,X,hk,rfl,hX,pr,ps,pb⟩:=hrel;by_cases hlt:k<N
    . have Hr:=az pr;have Hs:Hid (aH wr (w.heap.size+1) 48 (bY X)):=ps;obtain⟨pM,HX⟩:=aU pb hX;have szb:=pb.size;clear pr ps pb hX;obtain⟨wo,hwo⟩:∃wo,wo=wr:=⟨_,rfl⟩;subst hwo;obtain⟨S,hS⟩:=aI ((iP R 0 k).map λx=>x.map canon);have iM:S.length=m:=by rw[<-hS,List.length_map];exact Hml.out k
      have ni:∀j,j<m->S.getD j []=((R.getD (j+1) []).map canon).take k++((R.getD (j+1) []).map canon).drop (k+1):=λj hj=>by rw[<-hS];exact Hmr.out k j hj
      have vA:=Hdt.out k hlt;rw[hS]at vA;obtain⟨PE,Ap,ajN⟩:=cE iM ni vA;clear hS iM ni vA;have xd:(k:Int)<(N:Int):=by omega
      go_wp2_with fail;go_loopw[5,6] (λs5 x wr=>∃(i:Nat) (v:Value),1<=i/\i<=N/\x=ah (i:Int)/\v=s5/\gG 32 wr wo.heap.size S (i-1) v/\Bw wo wr) (λ_ x _=>N-(intOf x).toNat);case atStart=>exact⟨1,_,Nat.le_refl _,hNp,rfl,rfl,gG.nil _ _ _ _,Below.refl _ _⟩
      case round=>
       obtain⟨i,v,hi1,hiN,rfl,rfl,pv,pb⟩:=hrel;by_cases bj:i<N
       . obtain⟨b,o,b1,o1,c1,x,rfl,hx,hxl,hc1,hat,hnc⟩:=LB.out wr (aO pM.out pb) i bj;have bC:=xz N cap i (i:Int) (rfl:(some ⟨b,o,none⟩:Option Addr)=_) bj rfl;rw[Nat.mul_one]at bC;obtain⟨j,hj⟩:=aI (i-1);have oc:i+1-1=j+1:=by omega
         have hjm:j<m:=by have:=HN.out;omega
         have Bq:=Ap.out j hjm;rw[show j+1=i by omega,hx]at Bq;rw[hj]at pv;have hvl:=pv.lt;have jf:=hat.aCP k;have jT:=hat.aCD (n:=N) (cap:=c1) (k+1) hxl zo hnc;have nk:((x.take k).flatMap bK).length=k*3:=by rw[zU,List.length_take,Nat.min_eq_left zo]
         have hl2:((x.drop (k+1)).flatMap bK).length=(N-(k+1)) *3:=by rw[zU,List.length_drop,hxl]
         have yZ:(x.take k++x.drop (k+1)).length=k+(N-(k+1)):=by rw[List.length_append,List.length_take,List.length_drop,hxl,Nat.min_eq_left zo]
         have hsc:=(Sl.some ⟨b1,o1,none⟩ N c1 hnc).cut (k:=k+1) (size:=3) zo;have hkc:k<=c1:=by omega
         have hk1:k+1<=N:=by omega
         have NA:k+1<=c1:=by omega
         have fQ:=pb.size;obtain⟨eV,aX,vT,vU,FC,lJ,Qs,kN,KJ,Fl,mP,Fz⟩:=fu pv pb jf jT nk hl2 yZ hsc Bq hc1 hvl oc;clear pv pb jf jT nk hl2 yZ hsc Bq hvl hx hxl hat oc hj;have TP:(wr.alloc (.cells #[] 48)).cell? ⟨b,o+i,none⟩=some (.slice (some ⟨b1,o1,none⟩) N c1):=bg hc1;go_wp2_with (at_builtin;first| (refine qR rfl _ _ 32 rfl wr.heap.size 48 i0 _ 3 32 Tryz.underlying32 Hi.out cV.out cW.out cC.out rfl zd _ 0 [] rfl (World.ownsRow_made wr #[] 0 (Nat.le_refl _) (Nat.zero_le _) zm) (some ⟨b1,o1,none⟩) k c1 ((x.take k).flatMap bK) rfl (Sl.some _ _ _ hkc) FC.out (vT.out.below ((Below.refl _ wr).alloc (Nat.le_refl _) _)) (JS _) zx zo zm ?_;intro v1 w1 dh hg1 un;have hb1:=((Below.refl _ wr).alloc (Nat.le_refl _) _).grown hg1 zm (λk hk=>by have h9:wr.heap.size=k:=Option.some.inj hk;omega);rw[Nat.zero_add,List.nil_append]at dh;have hc2:=cell_later hb1 Fl.out;obtain⟨lL,cm⟩:=aU dh hb1;have vN:=hb1.size;clear dh hb1 hg1 un hc1 TP) | (refine qR rfl _ _ 32 rfl wr.heap.size 48 i0 _ 3 32 Tryz.underlying32 Hi.out cV.out cW.out cC.out rfl zd v1 k ((x.take k).flatMap bK) rfl lL.out _ (N-(k+1)) (c1-(k+1)) ((x.drop (k+1)).flatMap bK) rfl kN.out lJ.out (vU.out.below cm.out) (JS _) zx zo zo ?_;intro v2 w2 dX hg2 arw;obtain⟨av,cv,rfl,_,_⟩:=dm dX;have hb2:=cm.out.grown hg2 zo (λj e=>dz lL.out j e);have hq2:Pd w2 v.ownBlock wo.heap.size (.slice av (k+(N-(k+1))) cv) (x.take k++x.drop (k+1)):=Pd.own (by rw[List.flatMap_append];exact dX) Qs.out (λg hg=>(mP.out g hg).2) zo;obtain⟨cQ,QQ⟩:=aU hb2 hq2;have Ac:=hb2.size;clear dX hg2 arw hb2 hq2) | (go_loud (refine Kw rfl _ _ 82 rfl wo.heap.size 32 j0 _ Tryz.underlying82 Hj.out kP.out lN.out kj.out rfl v j S rfl ((eV.out.below cQ.out).below zl) w2.heap.size 1 (.slice av (k+(N-(k+1))) cv) rfl ((aH.new w2 32 [.slice av (k+(N-(k+1))) cv]).cell 0) (by rw[KJ.out];exact QQ.out.below zl) zo zi ?_);intro v3 w3 nu hg3 Je _));have hb3:=(aO (aO aX.out cQ.out) zl).grown hg3 zi Je;go_roundw;case rel=>exact⟨i+1,v3,by omega,by omega,by go_num,rfl,by rw[Fz.out];exact nu,hb3⟩
         case measure=>exact bH
       . obtain rfl:i=N:=by omega
         rw[show i-1=m by have:=HN.out;omega]at pv;obtain⟨a5,c5,rfl,Jn,Js⟩:=pv.tbl PE.out;obtain⟨b,o,b1,o1,c1,x,rfl,hx,hxl,hc1,hat,hnc⟩:=LB.out wr (aO pM.out pb) 0 zo;have Uv:k<x.length:=by rw[hxl];exact hlt
         have hxk:=Hr0.out k hlt x hx Uv;obtain⟨D,hD⟩:=aI (U k);obtain⟨E,hE⟩:=aI (V k);obtain⟨Y,hY⟩:=aI (D*E);have mg:=HU.out k hlt;have ML:=HV.out k hlt;have fM:=HGm.out k zo;have hst:=Pz.out k;have vA:=ajN.out a5 c5;rw[hD]at mg;rw[hE]at ML vA;rw[HX.out]at fM hst;rw[hD,hE,hY]at hst;rw[hD]at hxk;obtain⟨b2,o2,gj,p0,p1,p2⟩:=hat.num k Uv (show x[k]=(jP D)from hxk);simp only[Option.some.injEq,Addr.mk.injEq,and_true]at gj;obtain⟨rfl,rfl⟩:=gj;have hYs:Sm (5*B+6) Y:=by rw[<-hY];exact(Sm.mul mg ML).mono zo
         have bC:=xz i cap 0 0 (rfl:(some ⟨b,o,none⟩:Option Addr)=_) zo rfl;have xa:=nD i c1 k (k:Int) (rfl:(some ⟨b1,o1,none⟩:Option Addr)=_) hlt rfl;rw[Nat.zero_mul,Nat.add_zero]at bC;rw[Nat.add_zero]at hc1;have Hu:Hid (bA wr b o [.slice (some ⟨b1,o1,none⟩) i c1]):=λj hj=>by
          obtain rfl:j=0:=by simp at hj;omega
          exact hc1
         have Hp:Hid (bA wr b1 (o1+k*3) (bY D)):=iR p0 p1 p2;have fT:∀W,Cv 81 #[.agg #[aj (aK (dN D)),ai (nt (dN D).natAbs),ah (dE D)],.agg #[aj (aK (dN E)),ai (nt (dN E).natAbs),ah (dE E)]] W (cw Y):=λW=>OO _ _ _ _ _ _ Y (by show aJ (canon D) *aJ (canon E)=Y;rw[cJ,cJ];exact hY) W (mg.aCl zo) (ML.aCl zo);have hdw:=λW (hW:Bw wr W)=>vA W (Js.below hW) Jn;obtain⟨tB,Hdw,PI,KN,cu,aX⟩:=fw fT hdw hYs fM hst pb;have fQ:=pb.size;clear fT hdw hYs fM hst pb vA ML mg hY hE hD hxk hx hxl hat hc1 p0 p1 p2 Js Jn pv Uv;have Hb:=hbz wr;go_upto_region 13 with fail
         go_cut[8] (λs8 wx=>∃g:Nat,s8=.pointer (some ⟨g,0,none⟩)/\wr.heap.size<=g/\aH wx g 48 (bY Y)/\Bw wr wx);case first=>
          obtain⟨ag,aC⟩:=qZ (Hu.an<|Hp.an trivial);obtain⟨Hu,Hp,_⟩:=ag;have u0:=Hu.out.w1;obtain⟨p0,p1,p2⟩:=Hp.out.w3;have fy:∀w',dJ wr w'->aV w' b o (.slice (some ⟨b1,o1,none⟩) i c1)/\aV w' b1 (o1+k*3) (aj (aK (dN D)))/\aV w' b1 (o1+k*3+1) (ai (nt (dN D).natAbs))/\aV w' b1 (o1+k*3+2) (ah (dE D)):=λw' h=>⟨cell_later h u0,cell_later h p0,cell_later h p1,cell_later h p2⟩;refine uI (λw'=>dJ wr w') (λi=>Nat.blt i 10) 9 48 [aj false,.string ⟨#[]⟩,ah 0] [(0,true),(1,true),(2,true),(3,true),(4,true),(5,true),(6,true),(7,false),(8,false)] [(10,false)] zk zk rfl rfl rfl zk zk zc zc (λK a w h=>uy rfl rfl (λK' hK=>by go_simp;exact hK _ _ h)) ?_;clear u0 p0 p1 p2 Hu Hp;intro wrf au;replace Hb:=az (aO Hb.out au);refine⟨Hb.out,?_⟩;iterate 7 (refine jZ rfl rfl (v:=?_) (λw' hw'=>?_) ?_;rotate_left;(focus have hw':=fy w' hw';obtain⟨q0,q1,q2,q3⟩:=hw';go_simp;try with_reducible rfl);try simp only[UU])
          refine jN rfl rfl (λK hK=>?_);go_simp;with_reducible refine(Hdw.out _ Hb.out).mono ?_
          rintro e w9 ⟨rfl,hq⟩;refine hK _ _ hq (λw7 au hb2=>?_);replace Hb:=az (aO Hb.out au);refine⟨Hb.out,?_⟩;clear au hb2 hq hK K;try simp only[UU]
          refine jN rfl rfl (λK hK=>?_);go_simp;with_reducible refine(tB.out _).mono ?_
          rintro e w9 ⟨rfl,hq⟩;refine hK _ _ hq (λw8 au hb2=>?_);replace Hb:=az (aO Hb.out au);refine⟨Hb.out,?_⟩;clear au hb2 hq hK K;try simp only[UU]
          intro XF hb0 qx;have Hz:=az qx;clear qx;obtain⟨z0,GM,z1,Bj,z2,MD⟩:=Hz.out.g3;try simp only[U1]
          try simp only[Act.put,U2,U3]
          refine aY rfl rfl (λK hK=>?_);go_simp;refine hK _ _ (λh=>absurd h zd) ?_;try simp only[UU]
          simp only[bP];go_wp2_with fail;go_meet;exact⟨XF,rfl,hb0,((Hz.out.set 0 _).set 1 _).set 2 _,((Hb.out.setCell zp _).setCell zp _).setCell zp _⟩
         case rest=>
          obtain⟨g,rfl,hg,qd,qb⟩:=hcut;have bE:=aO aX.out qb;obtain⟨wz,ru⟩:=aU (Hr.out.below bE) (Hs.out.below bE);have lr2:=Hr.out.lt;have ls2:=Hs.out.lt;have lg:=qd.lt;obtain⟨ye,tu⟩:=aU (aO pM.out bE) qd;clear qd qb bE Hb Hu Hp;obtain⟨Z,hZ⟩:=aI (if k%2=1 then-Y else Y);obtain⟨X2,DN⟩:=aI (X+Z);have hst:=cu.out;rw[hZ,DN]at hst;have Io:Sm (5*B+6) Z:=by rw[<-hZ];split;exact PI.out.neg;exact PI.out
          have hpl:∀W,Cv 94 #[.agg #[aj (aK (dN X)),ai (nt (dN X).natAbs),ah (dE X)],.agg #[aj (aK (dN Z)),ai (nt (dN Z).natAbs),ah (dE Z)]] W (cw X2):=λW=>OM _ _ _ _ _ _ X2 (by show aJ (canon X)+aJ (canon Z)=X2;rw[cJ,cJ];exact DN) W (KN.out.aCl zo) (Io.aCl zo);have hng:k%2=1->∀W,Cv 164 #[.agg #[aj (aK (dN Y)),ai (nt (dN Y).natAbs),ah (dE Y)]] W (cw Z):=λh W=>agR _ _ _ Z (by show-aJ (canon Y)=Z;rw[cJ,<-hZ,if_pos h]) W (PI.out.aCl zo);have TH:¬k%2=1->Y=Z:=λh=>by rw[<-hZ,if_neg h]
          obtain⟨Ga,oM,Hng⟩:=cE hst hpl hng;clear hst hpl hng Io DN hZ;have Hb:=ye;have Hr:=wz;have Hs:=ru;have Hd:=tu;have hk4:k<=4:=by omega
          obtain⟨ag,aC⟩:=qZ (Hr.an<|Hs.an<|Hd.an trivial);by_cases hp:k%2=1
          case neg=>
           obtain rfl:=TH hp;clear TH;have hkb:((k:Int)%2==1)=false:=by simp;omega
           go_wp2_with fail;refine aZ (Hb.an ag) (oM.out _) λw7 ag aC=>?_;go_wp2;go_roundw;case rel=>exact⟨k+1,X2,by omega,by go_num,Ga.out,(((ag.2.1.out.so (w.heap.size+1) 0 zo _).so (w.heap.size+1) 1 zo _).so (w.heap.size+1) 2 zo _),((ag.2.2.1.out.set 0 _).set 1 _).set 2 _,(((ag.1.out.sc (w.heap.size+1) 0 (by have:=ag.1.out.size;omega) _).sc (w.heap.size+1) 1 (by have:=ag.1.out.size;omega) _).sc (w.heap.size+1) 2 (by have:=ag.1.out.size;omega) _)⟩
           case measure=>exact bH
          clear TH;have hkb:((k:Int)%2==1)=true:=by simp;omega
          go_wp2_with fail;refine aZ (Hb.an ag) (Hng.out hp _) λw7 ag aC=>?_;go_wp2_with fail;first|refine eO (bG w7 (g) 0 (bY Z)) bM ?_|refine fB (bG w7 (g) 0 (bY Z)) bM ?_
          intro W8 hs0;have ag:=cH hs0 ag;simp only[cB,List.set]at ag;have aC:=qC ag;go_wp2_with fail;refine aZ ag (oM.out _) λw9 ag aC=>?_;go_wp2;go_roundw;case rel=>exact⟨k+1,X2,by omega,by go_num,Ga.out,(((ag.2.1.out.so (w.heap.size+1) 0 zo _).so (w.heap.size+1) 1 zo _).so (w.heap.size+1) 2 zo _),((ag.2.2.1.out.set 0 _).set 1 _).set 2 _,(((ag.1.out.sc (w.heap.size+1) 0 (by have:=ag.1.out.size;omega) _).sc (w.heap.size+1) 1 (by have:=ag.1.out.size;omega) _).sc (w.heap.size+1) 2 (by have:=ag.1.out.size;omega) _)⟩
          case measure=>exact bH
    . obtain rfl:k=N:=by omega
      have Hr:=az pr;have Hs:Hid (aH wr (w.heap.size+1) 48 (bY X)):=ps;obtain⟨Hb,HX⟩:=aU pb hX;clear pr ps pb hX;obtain⟨ag,aC⟩:=qZ (Hr.an<|Hs.an trivial);go_wp2;refine eH (bG wr (w.heap.size) 0 (bY X)) bM ?_;intro w9 hs0;have ag:=cH hs0 (Hb.an ag);simp only[cB,List.set]at ag;have aC:=qC ag;refine bodyPost_ret (v:=cw X) (by simp[results,Tryz.results130,go_sem,aC]) rfl ⟨by rw[HX.out],ag.1.out⟩
def awo (a:Option Addr)(cap n B:Nat)(rows:List (List Raw))(w:World)(hL:rows.length=n+1)(hn:1<=n)(dv:n<=4)(hrow:∀r∈rows,r.length=n)(hfit:∀r∈rows,∀c∈r,ke B c)(hB:B<=1000)(ha:bQ w a rows):
 Cv 91 #[.slice a (n+1) cap] w (cw (jd n (gy rows))):=by
 obtain⟨i0,hi,hz0,hz1,hz2⟩:=info_parts Tryz.aCm;obtain⟨j0,hj,hy0,hy1,hy2⟩:=info_parts Tryz.aCq;have h00:0<rows.length:=by omega
 have ky:rows.getD 0 []=rows[0]:=by simp[h00]
 obtain⟨S,hS⟩:=aI ((rows.drop 1).map λp=>iY (rows.getD 0 []) p);have iM:S.length=n:=by rw[<-hS];simp[hL]
 have rC:∀r∈S,r.length=n:=by intro r hr;rw[<-hS]at hr;obtain⟨p,hp,rfl⟩:=List.mem_map.1 hr;rw[Dt (by rw[ky,hrow _ (List.mem_of_mem_drop hp),hrow _ (List.getElem_mem h00)]),hrow _ (List.mem_of_mem_drop hp)]
 have kC:∀r∈S,∀d∈r,Sm (B+1) d:=by intro r hr d hd;rw[<-hS]at hr;obtain⟨p,hp,rfl⟩:=List.mem_map.1 hr;unfold iY at hd;obtain⟨i,hi,rfl⟩:=List.mem_iff_getElem.1 hd;rw[List.getElem_zipWith];refine Sm.sub (hfit p (List.mem_of_mem_drop hp) _ (List.getElem_mem _)).2 (hfit (rows.getD 0 []) ?_ _ (List.getElem_mem _)).2;rw[ky];exact List.getElem_mem h00
 have hent:cX n (cj S)=jd n (gy rows):=by rw[GF];refine GC n dv (λi j hi hj=>?_);rw[<-hS];exact WV n rows hL hrow i j hi hj
 have ni:∀k (h1:k+1<rows.length),(S.map λx=>x.map canon).getD k []=(iY rows[0] rows[k+1]).map canon:=by
  intro k h1;subst hS;rw[ky];have h2:k<(rows.drop 1).length:=by simp;omega
  simp[List.getD_eq_getElem?_getD,h1]
 have kD:=λa' c' W (h1:mR W a' (S.map λx=>x.map canon)) (h2:Sl a' n c')=>avI n dv a' c' (B+1) S W iM rC kC zo h1 h2;rw[hent]at kD;obtain⟨X,hX⟩:=aI (jd n (gy rows));rw[hX]at kD⊢;obtain⟨T,hT⟩:=aI (S.map λx=>x.map canon);rw[hT]at kD ni;have hTl:T.length=n:=by rw[<-hT,List.length_map,iM]
 obtain⟨zr,ny⟩:=aI (rows[0]);have xj:=λW (hW:Bw w W) k (hk:k<rows.length)=>(ha.below hW).row k hk;have hw0:=λW (hW:Bw w W)=>xj W hW 0 h00;have hn0:zr.length=n:=by rw[<-ny];exact hrow _ (List.getElem_mem _)
 have ui:∀x∈zr,ke B x:=by rw[<-ny];exact hfit _ (List.getElem_mem _)
 simp only[ny,hn0]at hw0 ni;obtain⟨Hi,cV,cW,cC,Hj,kP,lN,kj,Ap,Au,HTl,QX⟩:=fu hi hz0 hz1 hz2 hj hy0 hy1 hy2 ni kD hTl xj;obtain⟨Rm,nS,Fv,mO,rS,HL⟩:=fw hw0 hn0 ui hrow hfit hL;clear hi hz0 hz1 hz2 hj hy0 hy1 hy2 ni kD hTl xj hw0 hn0 ui hrow hfit hL h00 ky hS iM rC kC hent hX hT ny ha;obtain⟨W,cP,ag,aC⟩:=gz w 48 [aj false,.string ⟨#[]⟩,ah 0];go_enter Tryz.func91,Tryz.ntmps91;have lr:=ag.2.1.out.lt;go_wp2_with fail;go_loopw[3,4] (λs3 x wr=>∃(i:Nat) (v:Value),1<=i/\i<=n+1/\x=ah (i:Int)/\v=s3/\gG 32 wr W.heap.size T (i-1) v/\Bw W wr) (λ_ x _=>n+1-(intOf x).toNat);case atStart=>exact⟨1,_,Nat.le_refl _,by omega,rfl,rfl,gG.nil _ _ _ _,Below.refl _ _⟩
 case round=>
  obtain⟨i,v,hi1,hiN,rfl,rfl,pv,pb⟩:=hrel;by_cases hlt:i<n+1
  . have hk2:i<rows.length:=by rw[HL.out];exact hlt
    obtain⟨j,hj⟩:=aI (i-1);have oc:i+1-1=j+1:=by omega
    obtain⟨p,fO⟩:=aI (rows[i]);obtain⟨b,o,a1,c1,hab,hc1,hat⟩:=QX.out wr (aO ag.1.out pb) i hk2;obtain⟨b',o',a0,c0,nW,hc0,nX⟩:=Rm.out wr (aO ag.1.out pb);obtain⟨rfl,rfl⟩:b'=b/\o'=o:=by rw[nW]at hab;simp at hab;exact hab
    have ie:p.length=n:=by rw[<-fO];exact mO.out _ (List.getElem_mem hk2)
    have lh:∀x∈p,ke B x:=by rw[<-fO];exact rS.out _ (List.getElem_mem hk2)
    have rB:T.getD j []=(iY zr p).map canon:=by have h:=Ap.out j zo;rw[h];congr 2;rw[<-fO];congr 1;omega
    rw[fO]at hc1 hat;rw[ie]at hc1;have JE:=rJ (n+1) cap 0 0 hab zo rfl;have qK:=rJ (n+1) cap i (i:Int) hab hlt rfl;rw[Nat.mul_one]at JE qK;rw[Nat.add_zero]at JE hc0;obtain⟨Z,hZ⟩:=aI (iY zr p);rw[hZ]at rB;have vq:Z.length=n:=by rw[<-hZ,Dt (by rw[ie,nS.out]),ie]
    rw[hj]at pv;have hvl:=pv.lt;obtain⟨eZ,td,lM,uR,yc,HZ,vS,aX,eV,mP,Fz,kJ⟩:=fu hat nX ie lh rB hZ vq pb pv hvl oc hab;obtain⟨Fl,uO⟩:=aU hc1 hc0;clear hat nX ie lh rB hZ vq pb pv hvl oc hab nW fO hc1 hc0;have fQ:=aX.out.size;have hjn:j<n:=by omega
    clear hj;obtain⟨wc,hwc⟩:∃wc,wc=wr:=⟨_,rfl⟩;subst hwc;have xd:(i:Int)<(n:Int)+1:=by omega
    go_wp2_with fail;go_loopw[5,6] (λs5 x wr=>∃(k:Nat) (v2:Value),k<=n/\x=ah (k:Int)/\v2=s5/\wr.ownsRow wc.heap.size 48 3 v2 k (dC (Z.take k))/\Bw wc wr) (λ_ x _=>n-(intOf x).toNat);case atStart=>exact⟨0,_,Nat.zero_le _,rfl,rfl,World.ownsRow_nil _ _ _ _,Below.refl _ _⟩
    case round=>
     obtain⟨k,v2,hk,rfl,rfl,ho,hb2⟩:=hrel;have hc1:=cell_later hb2 Fl.out;have hc0:=cell_later hb2 uO.out;by_cases bj:k<n
     . have k1:k<p.length:=by rw[lM.out];exact bj
       have k2:k<zr.length:=by rw[nS.out];exact bj
       obtain⟨sp,mp,ep,kF⟩:=na (p[k]);obtain⟨sq,mq,eq,xu⟩:=na (zr[k]);have ic:=uR.out _ (List.getElem_mem k1);have vC:=Fv.out _ (List.getElem_mem k2);rw[kF]at ic;rw[xu]at vC;obtain⟨D,hD⟩:=aI (aJ (sp,mp,ep)-aJ (sq,mq,eq));have ru:Hid (dC (Z.take (k+1))=dC (Z.take k)++(bY D)):=by
        show _=_
        rw[<-HZ.out,abf _ _ _ k1 k2,Dn,kF,xu,hD];rfl
       obtain⟨b1,o1,kV,p0,p1,p2⟩:=(eZ.out.below hb2).num k k1 kF;obtain⟨b2,o2,gj,q0,q1,q2⟩:=(td.out.below hb2).num k k2 xu;have Ur:=xy n c1 k (k:Int) kV bj rfl;have arh:=xy n c0 k (k:Int) gj bj rfl;have mo:b1<wc.heap.size:=(by subst kV;exact eZ.out.lt (by intro h0;have:=congrArg List.length h0;rw[zU]at this;simp at this;omega));have lj:b2<wc.heap.size:=(by subst gj;exact td.out.lt (by intro h0;have:=congrArg List.length h0;rw[zU]at this;simp at this;omega));have JJ:b'<wc.heap.size:=World.block_lt_of_cell? wc _ uO.out;have Hu:Hid (bA wr b' (o'+i) [.slice a1 n c1]):=λj hj=>by
        obtain rfl:j=0:=by simp at hj;omega
        exact cell_later hb2 Fl.out
       have Hv:Hid (bA wr b' o' [.slice a0 n c0]):=λj hj=>by
        obtain rfl:j=0:=by simp at hj;omega
        exact cell_later hb2 uO.out
       have Hp:Hid (bA wr b1 (o1+k*3) [aj sp,ai mp,ah ep]):=iR p0 p1 p2;have Hq:Hid (bA wr b2 (o2+k*3) [aj sq,ai mq,ah eq]):=iR q0 q1 q2;obtain⟨tA,Ll,HD,Ho,vW⟩:=fH ic vC hD ho hb2;have EJ:=hb2.size;have pM:=ag.1;clear ho hb2 ic vC hD kF xu kV gj p0 p1 p2 q0 q1 q2;have Hb:=hbz wr;go_wp2_with fail;clear hc1 hc0;obtain⟨ag,aC⟩:=qZ (Hu.an<|Hv.an<|Hp.an<|Hq.an trivial);obtain⟨Hu,Hv,Hp,Hq,_⟩:=ag;have u0:=Hu.out.w1;have v0:=Hv.out.w1;obtain⟨p0,p1,p2⟩:=Hp.out.w3;obtain⟨q0,q1,q2⟩:=Hq.out.w3;refine ez (λw'=>aV w' b' (o'+i) (.slice a1 n c1)/\aV w' b' o' (.slice a0 n c0)/\aV w' b1 (o1+k*3) (aj sp)/\aV w' b1 (o1+k*3+1) (ai mp)/\aV w' b1 (o1+k*3+2) (ah ep)/\aV w' b2 (o2+k*3) (aj sq)/\aV w' b2 (o2+k*3+1) (ai mq)/\aV w' b2 (o2+k*3+2) (ah eq)) (λi=>Nat.blt i 100000) [(0,true),(1,true),(2,true),(3,true),(4,true),(5,true),(6,true),(7,true),(8,true),(9,true),(10,true),(11,true),(12,true),(13,true),(14,false),(15,false),(16,false),(17,true)] zk zk rfl zk zc ⟨u0,v0,p0,p1,p2,q0,q1,q2⟩ ?_;iterate 14 (refine pT rfl rfl ?_ (by intro w' ⟨q0,q1,q2,q3,q4,q5,q6,q7⟩;go_simp;try with_reducible rfl);try simp only[UU])
       refine aY rfl rfl (λK hK=>?_);go_simp;with_reducible refine(awp sp mp ep sq mq eq D HD.out _ tA.out.1 Ll.out.1 (Sm.aCl (Sm.neg Ll.out.2) zo)).mono ?_
       rintro e w5 ⟨rfl,hq⟩;have au:Bw wr w5:=by first|exact hq|exact df hq
       replace Hu:=kW Hu au;replace Hv:=kW Hv au;replace Hp:=kW Hp au;replace Hq:=kW Hq au;have u0:=Hu.out.w1;have v0:=Hv.out.w1;obtain⟨p0,p1,p2⟩:=Hp.out.w3;obtain⟨q0,q1,q2⟩:=Hq.out.w3;replace Hb:=bD Hb au;refine hK _ _ (λ_=>⟨u0,v0,p0,p1,p2,q0,q1,q2⟩) ?_;try simp only[UU]
       refine aY rfl rfl (λK hK=>?_);go_simp;refine hK _ _ (λ_=>⟨bg u0,bg v0,bg p0,bg p1,bg p2,bg q0,bg q1,bg q2⟩) ?_;try simp only[UU]
       refine cL (λw7=>aH w7 (w5.heap.size) 48 (bY D)/\Bw w5 w7) (by first|exact fI|exact fJ) ?_;rintro w7 ⟨qc,au⟩;replace Hu:=kW Hu au;replace Hv:=kW Hv au;replace Hp:=kW Hp au;replace Hq:=kW Hq au;have Hc:=az qc;clear qc;have u0:=Hu.out.w1;have v0:=Hv.out.w1;obtain⟨p0,p1,p2⟩:=Hp.out.w3;obtain⟨q0,q1,q2⟩:=Hq.out.w3;obtain⟨c0,c1,c2⟩:=Hc.out.c3;replace Hb:=bD Hb au;refine aY rfl rfl (λK hK=>?_);have dw:=ownsRow_below Ho.out Hb.out;have jH:=Hb.out.size;refine wp_append_own _ _ _ 32 rfl wc.heap.size 48 i0 _ 3 32 Tryz.underlying32 Hi.out cV.out cW.out cC.out rfl zd v2 k (dC (Z.take k)) rfl dw ⟨w5.heap.size,0,none⟩ 1 1 (bY D) rfl rfl (gK Hc.out) zy zx zo zo ?_;intro v' w8 dY bJ _;obtain⟨g',cq,rfl⟩:=ownsRow_succ dY;have nb:∀b,b<wc.heap.size->some b≠v2.ownBlock:=λb hb e=>by have:=dz dw b e.symm;omega
       refine hK _ _ (λ_=>⟨cK bJ u0 (nb _ JJ),cK bJ v0 (nb _ JJ),cK bJ p0 (nb _ mo),cK bJ p1 (nb _ mo),cK bJ p2 (nb _ mo),cK bJ q0 (nb _ lj),cK bJ q1 (nb _ lj),cK bJ q2 (nb _ lj)⟩) ?_;try simp only[UU]
       refine pT rfl rfl ?_;try simp only[UU]
       simp only[bP];go_wp2;go_roundw;case rel=>
        refine⟨k+1,_,by omega,by go_num,rfl,?_,?_⟩
        . rw[ru.out];exact dY
        . exact(aO vW.out Hb.out).grown bJ zo (λj e=>dz dw j e)
       case measure=>exact bH
     . obtain rfl:k=n:=by omega
       have ub:Z.take k=Z:=List.take_of_length_le (by rw[vS.out];exact Nat.le_refl _);rw[ub,sk]at ho;have hq2:Pd wr v.ownBlock W.heap.size v2 (Z.map canon):=Pd.own ho (by rw[List.length_map];exact vS.out) (λg hg=>(mP.out g hg).2) zo;obtain⟨av,cv,rfl,_,_⟩:=dm ho;obtain⟨QQ,cQ⟩:=aU hq2 hb2;have Ac:=hb2.size;clear ho hq2 hb2 ub;go_wp2_with (at_builtin;refine Kw rfl _ _ 82 rfl W.heap.size 32 j0 _ Tryz.underlying82 Hj.out kP.out lN.out kj.out rfl v j T rfl ((eV.out.below cQ.out).below zl) wr.heap.size 1 (.slice av k cv) rfl ((aH.new wr 32 [.slice av k cv]).cell 0) (by rw[yc.out];exact QQ.out.below zl) zo zi ?_;intro v3 w3 nu hg3 Je _);have hb3:=(aO (aO aX.out cQ.out) zl).grown hg3 zi Je;go_roundw;case rel=>exact⟨i+1,v3,by omega,by omega,by go_num,rfl,by rw[Fz.out];exact nu,hb3⟩
       case measure=>exact bH
  . obtain rfl:i=n+1:=by omega
    rw[Nat.add_sub_cancel]at pv;obtain⟨a5,c5,rfl,Jn,Js⟩:=pv.tbl HTl.out;have wz:=ag.2.1.out.below pb;have bE:=aO ag.1.out pb;have hd:=Au.out a5 c5 wr Js Jn;have Hd:=az hd;clear hd pv Js Jn pb;obtain⟨Hb,Hr⟩:=aU bE wz;clear bE wz;obtain⟨ag,aC⟩:=qZ (Hr.an trivial);go_wp2_with fail;refine aZ (Hb.an ag) (Hd.out) λw5 ag aC=>?_;go_wp2;refine eH (bG w5 (w.heap.size) 0 (bY X)) bM ?_;intro w9 hs0;have ag:=cH hs0 ag;simp only[cB,List.set]at ag;have aC:=qC ag;refine bodyPost_ret (v:=cw X) (by simp[results,Tryz.results91,go_sem,aC]) rfl ⟨rfl,ag.1.out⟩
def agI (a:Option Addr)(L cap B:Nat)(rows:List (List Raw))(w:World)(hL:rows.length=L)(h5:L<=5)(hfit:∀r∈rows,∀c∈r,ke B c)(hB:B<=1000)(ha:bQ w a rows):
 Cv 48 #[.slice a L cap] w (ah (eU rows)):=by
 obtain⟨V,hV⟩:=aI (gA rows);have hvar:=λW (hW:Bw w W)=>WL a L cap rows V W hL zo (ha.below hW) hV;by_cases h0:V=0
 . subst h0;have e:eU rows=1:=by unfold eU;rw[if_pos hV]
   rw[e];have yt:=az hvar;clear hvar hfit ha hV e hL;have Hb:=hbz w;go_enter Tryz.func48,Tryz.ntmps48;go_wp2_with fail;refine aZ (Hb.an trivial) (yt.out _ Hb.out) λw1 ag aC=>?_;go_wp2;refine bodyPost_ret (results_tmp rfl _ _ _) rfl ⟨rfl,ag.1.out⟩
 . obtain⟨m,hm,hrl⟩:∃m,L=m+2/\∀r∈rows,r.length=m+1:=by obtain⟨c1,c2,c3,c4⟩:=EM hV h0;exact⟨L-2,by omega,λr hr=>by have:=c4 r hr;omega⟩
   have hV2:gA rows=((m+1:Nat):Int):=Pi (by rw[hL,hm]) hrl zo zo;obtain rfl:V=((m+1:Nat):Int):=by rw[<-hV,hV2]
   obtain⟨X,hX⟩:=aI (jd (m+1) (gy rows));obtain⟨g,hg⟩:=aI (dR X);have e:eU rows=if g=0 then 5 else 0:=by
    unfold eU;rw[if_neg (by rw[hV2];omega),hV2,Int.toNat_natCast,hX];have:=Sz X;rw[hg]at this;by_cases h:X=0
    . rw[if_pos h,if_pos (this.2 h)]
    . rw[if_neg h,if_neg (λh2=>h (this.1 h2))]
   rw[e];have hsz:=λW (hW:Bw w W)=>awo a cap (m+1) B rows W (by rw[hL,hm]) zo zo hrl hfit hB (ha.below hW);rw[hX]at hsz;have fM:Sm (4*B+10) X:=by
    rw[<-hX];refine(Ss (B:=B+1) zo zo (λi j hi hj=>?_)).mono zo;have hps:∀a b,a<=m+1->b<m+1->Sm B (gy rows a b):=λa b h1 h2=>by
     have ha1:a<rows.length:=by omega
     have hb1:b<rows[a].length:=by rw[hrl _ (List.getElem_mem ha1)];exact h2
     have ee:gy rows a b=aJ rows[a][b]:=by unfold gy cj;simp[List.getD_eq_getElem?_getD,ha1,hb1]
     rw[ee];exact(hfit _ (List.getElem_mem ha1) _ (List.getElem_mem hb1)).2
    exact GG hps i j hi hj
   have jI:=λW=>Kk (aK (dN X)) (nt (dN X).natAbs) (dE X) g (by show dR (aJ (canon X))=g;rw[cJ];exact hg) W (by have:=(fM.aCl zo).1;exact Nat.le_trans this zd);obtain⟨yt,pV,oO⟩:=cE hvar hsz jI;clear hvar hsz jI hfit ha hV hV2 e hX hg fM hrl hL;obtain⟨n,hn⟩:=aI (m+1);have um:L=n+1:=by omega
   simp only[hn]at yt pV h0⊢;subst um;have hn0:1<=n:=by omega
   clear hn hm;have hb0:((n:Int)==0)=false:=by simpa using h0
   have hb1:¬(n:Int)=0:=h0;have Hb:=hbz w;go_enter Tryz.func48,Tryz.ntmps48;go_wp2_with fail;refine aZ (Hb.an trivial) (yt.out _ Hb.out) λw1 ag aC=>?_;go_wp2_with fail;refine aZ ag (pV.out _ ag.1.out) λw2 ag aC=>?_;go_wp2_with fail;refine aZ ag (oO.out _) λw3 ag aC=>?_;by_cases hg0:g=0
   . subst hg0;go_wp2;refine bodyPost_ret (results_tmp rfl _ _ _) rfl ⟨rfl,ag.1.out⟩
   . have hgb:(g==0)=false:=by simpa using hg0
     go_wp2;refine bodyPost_ret (results_tmp rfl _ _ _) rfl ⟨rfl,ag.1.out⟩
def avY (a:Option Addr)(L cap:Nat)(rows:List (List Raw))(w:World)(hL:rows.length=L)(hl:L<=5)(hr:∀r∈rows,r.length<=5)(ha:mR w a rows):
 Cl 9 #[.slice a L cap] w λe w'=>∃a' c',e=.returned (.slice a' L c')/\L<=c'/\Fast w.heap.size w' (λu=>bQ u a' rows)/\Bw w w':=by
 obtain⟨i0,hi,hz0,hz1,hz2⟩:=info_parts Tryz.aCm;obtain⟨j0,hj,hy0,hy1,hy2⟩:=info_parts Tryz.aCJ;obtain⟨Hi,cV,cW,cC,Hj,kP,lN,kj,Ha,HL,Hr⟩:=afv hi hz0 hz1 hz2 hj hy0 hy1 hy2 ha hL hr;clear hi hz0 hz1 hz2 hj hy0 hy1 hy2 ha hL hr;go_enter Tryz.func9,Tryz.ntmps9;have Hb:=hbz w;go_wp2_with fail;go_loopw[3,4] (λs3 x wr=>∃(k:Nat) (v:Value),k<=L/\x=ah (k:Int)/\v=s3/\gG 56 wr w.heap.size rows k v/\Bw w wr) (λ_ x _=>L-(intOf x).toNat);case atStart=>exact⟨0,_,Nat.zero_le _,rfl,rfl,gG.nil _ _ _ _,Hb.out⟩
 case round=>
  clear Hb;obtain⟨k,v,hk,rfl,rfl,pv,pb⟩:=hrel;by_cases hlt:k<L
  . have hkr:k<rows.length:=by rw[HL.out];exact hlt
    obtain⟨b,o,a1,c1,rfl,hc1,hat,hsc⟩:=(Ha.out.below pb).row k hkr;have bC:=rJ L cap k (k:Int) (rfl:(some ⟨b,o,none⟩:Option Addr)=_) hlt rfl;rw[Nat.mul_one]at bC;obtain⟨x,hx⟩:=aI (rows[k]);have hx5:x.length<=5:=by rw[<-hx];exact Hr.out _ (List.getElem_mem hkr)
    have hrk:rows.getD k []=x:=by rw[<-hx];simp[hkr]
    rw[hx]at hc1 hat hsc;obtain⟨n,hn⟩:=aI x.length;rw[hn]at hc1 hsc hx5;have nk:(x.flatMap bK).length=n*3:=by rw[zU,hn]
    have hvl:=pv.lt;have fQ:=pb.size;obtain⟨eV,aX,eZ,FC,kN,Hrk,Fl,mP,Hn⟩:=En pv pb hat nk hsc hrk hc1 hvl hn;clear pv pb hat nk hsc hrk hvl hn hx hkr;have TP:(wr.alloc (.cells #[] 48)).cell? ⟨b,o+k,none⟩=some (.slice a1 n c1):=bg hc1;go_wp2_with (at_builtin;first| (refine qR rfl _ _ 56 rfl wr.heap.size 48 i0 _ 3 32 Tryz.underlying56 Hi.out cV.out cW.out cC.out rfl zd _ 0 [] rfl (World.ownsRow_made wr #[] 0 (Nat.le_refl _) (Nat.zero_le _) zm) a1 n c1 (x.flatMap bK) rfl kN.out FC.out (eZ.out.below ((Below.refl _ wr).alloc (Nat.le_refl _) _)) (JS _) zx zo zm ?_;intro v1 w1 dh hg1 un;have hb1:=((Below.refl _ wr).alloc (Nat.le_refl _) _).grown hg1 zm (λk hk=>by have h9:wr.heap.size=k:=Option.some.inj hk;omega);rw[Nat.zero_add,List.nil_append]at dh;obtain⟨av,cv,rfl,_,_⟩:=dm dh;have hq1:Pd w1 v.ownBlock w.heap.size (.slice av n cv) x:=Pd.own dh Hn.out (λg hg=>(mP.out g hg).2) zo;obtain⟨cm,AC⟩:=aU hb1 hq1;have vN:=hb1.size;clear dh hb1 hg1 un hc1 TP hq1) | (go_loud (refine Kw rfl _ _ 26 rfl w.heap.size 56 j0 _ Tryz.underlying26 Hj.out kP.out lN.out kj.out rfl v k rows rfl ((eV.out.below cm.out).below zl) w1.heap.size 1 (.slice av n cv) rfl ((aH.new w1 56 [.slice av n cv]).cell 0) (by rw[Hrk.out];exact AC.out.below zl) zo zi ?_);intro v3 w3 nu hg3 Je _));have hb3:=(aO (aO aX.out cm.out) zl).grown hg3 zi Je;go_roundw;case rel=>exact⟨k+1,v3,by omega,by go_num,rfl,nu,hb3⟩
    case measure=>exact bH
  . obtain rfl:k=L:=by omega
    obtain⟨a2,c2,rfl,hcc,kE⟩:=gG.aCF pv HL.out;obtain⟨yo,aX⟩:=aU kE pb;clear pv pb kE;go_wp2;refine bodyPost_ret (results_tmp rfl _ _ _) rfl ⟨a2,c2,rfl,hcc,yo.out,aX.out⟩
end Go.Proofs.YtnjfebkelecgaaaGreatDoor
