/- The reference of chapter 15: Det. -/
import Derived.Test.YtdaadlblknpipaaGreatDoorZ9
import Derived.Test.YtdaadlblknpipaaGreatDoorZ20
import Derived.Test.YtdaadlblknpipaaGreatDoorZ21
import Derived.Test.YtdaadlblknpipaaGreatDoorZ15
import Derived.Test.YtdaadlblknpipaaGreatDoorZ13
import Derived.Test.YtdaadlblknpipaaGreatDoorZ7
set_option linter.unusedVariables false
set_option linter.unusedSimpArgs false
set_option maxRecDepth 100000
set_option maxHeartbeats 16000000
namespace Go.Proofs.YtdaadlblknpipaaGreatDoor
open Go.RowKit
attribute [local go_sem ↓] Go.wp_at_zero Go.wp_at_succ
theorem At.pre {w:World}{a:Option Addr}{xs ys:List Value}(h:At w a (xs++ys)):At w a xs:=by
 rcases h with h|⟨b,o,rfl,hc⟩
 . exact .inl (List.append_eq_nil_iff.1 h).1
 . by_cases h0:xs=[]
   . exact .inl h0
   . refine .inr ⟨b,o,rfl,λj hj=>?_⟩;rw[hc j (by rw[List.length_append];omega),List.getElem?_append_left hj]
theorem vT (x:List Raw):(x.flatMap bo).length=x.length*3:=iY bo 3 (λ_=>rfl) x
theorem aiO (x:List Raw)(k:Nat)(hk:k<=x.length):(x.drop k).flatMap bo=(x.flatMap bo).drop (k*3):=by
 have e0:x.flatMap bo=(x.take k).flatMap bo++(x.drop k).flatMap bo:=by rw[<-List.flatMap_append,List.take_append_drop]
 have e1:((x.take k).flatMap bo).length=k*3:=by rw[vT,List.length_take,Nat.min_eq_left hk]
 rw[e0,<-e1,List.drop_left]
theorem At.apI {w:World}{a:Option Addr}{x:List Raw}(h:At w a (x.flatMap bo))(k:Nat):At w a ((x.take k).flatMap bo):=by
 have e0:x.flatMap bo=(x.take k).flatMap bo++(x.drop k).flatMap bo:=by rw[<-List.flatMap_append,List.take_append_drop]
 rw[e0]at h;exact h.pre
theorem At.apA {w:World}{a:Option Addr}{x:List Raw}{n cap:Nat}(h:At w a (x.flatMap bo))(k:Nat)(hn:x.length=n)(hk:k<=n)(hc:n<=cap):At w (if cap=k then a else a.map (·.add (k*3))) ((x.drop k).flatMap bo):=by rw[aiO x k zo];exact At.cut (size:=3) (n:=n) h (by rw[vT,hn]) hk hc
theorem aeU {B:Nat}{R:List (List Dyadic)}{n:Nat}(hL:R.length=n)(hrow:∀x∈R,x.length=n)(hsm:∀x∈R,∀d∈x,Sm B d)(i j:Nat)(hi:i<n)(hj:j<n):Sm B (bG R i j):=by
 have hk:i<R.length:=by omega
 have hk2:j<R[i].length:=by rw[hrow _ (List.getElem_mem hk)];exact hj
 have e:bG R i j=R[i][j]:=by unfold bG;simp[List.getD_eq_getElem?_getD,hk,hk2]
 rw[e];exact hsm _ (List.getElem_mem hk) _ (List.getElem_mem hk2)
theorem aeS {R:List (List Dyadic)}(i j:Nat)(hi:i<R.length)(hj:j<R[i].length):bG R i j=R[i][j]:=by unfold bG;simp[List.getD_eq_getElem?_getD,hi,hj]
theorem aka {B m:Nat}{e:Nat->Nat->Dyadic}(hm:m+1<=4)(h:∀i j,i<m+1->j<m+1->Sm B (e i j))(k:Nat):k<=m+1->Sm (5*B+6+k) (lV (cu m) e k):=by
 induction k with
 |zero=>intro _;exact Sm.zero _
 | succ k ih=>
   intro hk;have h1:=ih zo;have h2:Sm (4*B+6) (cu m (fZ e 0 k)):=zu zo (λa b ha hb=>h _ _ (by split<;>omega) (by split<;>omega));have h3:Sm (5*B+6+k) (e 0 k*cu m (fZ e 0 k)):=(Sm.mul (h 0 k zo zo) h2).mono zo;rw[lV];split
   . exact Sm.add h1 h3.neg
   . exact Sm.add h1 h3
theorem jW.apB {w:World}{a:Option Addr}{R:List (List Dyadic)}{n:Nat}(h:jW w a (R.map λx=>x.map canon))(hL:R.length=n)(hrow:∀x∈R,x.length=n)(i:Nat)(hi:i<n):
 ∃b o b1 o1 c1,∃x:List Raw,a=some ⟨b,o,none⟩/\(R.getD i []).map canon=x/\x.length=n/\w.cell? ⟨b,o+i,none⟩=some (.slice (some ⟨b1,o1,none⟩) n c1)/\At w (some ⟨b1,o1,none⟩) (x.flatMap bo)/\n<=c1:=by
 have hk:i<R.length:=by omega
 obtain⟨b,o,a1,c1,h1,h2,h3,h4⟩:=h.row i (by simp[hk]);have e1:(R.map λx=>x.map canon)[i]'(by simp[hk])=R[i].map canon:=by simp
 have hxl:=hrow _ (List.getElem_mem hk);rw[e1]at h2 h3 h4;rw[List.length_map,hxl]at h2 h4;rcases h3 with h3|⟨b1,o1,rfl,h3⟩
 . have:=congrArg List.length h3;rw[vT,List.length_map,hxl]at this;simp at this;omega
 . exact⟨b,o,b1,o1,c1,_,h1,rfl,by simp[List.getD_eq_getElem?_getD,hk,hxl],h2,by simp only[List.getD_eq_getElem?_getD,List.getElem?_eq_getElem hk,Option.getD_some];exact .inr ⟨b1,o1,rfl,h3⟩,h4.1⟩
theorem aif (R:List (List Dyadic))(k m:Nat)(hL:R.length=m+1)(j:Nat)(hj:j<m):((iq R 0 k).map λx=>x.map canon).getD j []=((R.getD (j+1) []).map canon).take k++((R.getD (j+1) []).map canon).drop (k+1):=by
 have h:=NW R 0 k m hL zo j hj;rw[if_neg zo]at h;have hl:j<(iq R 0 k).length:=by rw[Ea R 0 k m hL zo];exact hj
 have h2:(iq R 0 k)[j]=(R.getD (j+1) []).eraseIdx k:=by rw[<-h];simp[List.getD_eq_getElem?_getD,hl]
 rw[<-List.eraseIdx_eq_take_drop_succ,Te,<-h2];simp[List.getD_eq_getElem?_getD,hl]
theorem ajT (n:Nat):n<=4->∀(a:Option Addr) (cap B:Nat) (R:List (List Dyadic)) (w:World),R.length=n->(∀x∈R,x.length=n)->(∀x∈R,∀d∈x,Sm B d)->B<=2000->jW w a (R.map λx=>x.map canon)->Sl a n cap->
 Calls Tryz.prog 52 #[.slice a n cap] w λe w'=>e=.returned (bC (cu n (bG R)))/\Bw w w':=by
 induction n with
 | zero=>
   intro _ a cap B R w _ _ _ _ _ _;obtain⟨D,hD⟩:∃D:Dyadic,Dyadic.ofIntWithPrec 1 0=D:=⟨_,rfl⟩;have TC:cu 0 (bG R)=D:=by rw[<-hD];rfl
   have hof:∀W,Calls Tryz.prog 62 #[.int .i64 1] W λe w'=>e=.returned (bC D)/\Bw W w':=λW=>Yi 1 D hD W zd;rw[TC];have rF:=ah hof;clear hof hD TC;obtain⟨W,dc,Hb,Hr⟩:=iF w 30 [.bool false,.string ⟨#[]⟩,.int .i64 0];obtain⟨r0,ai,r1,aj,r2,aC⟩:=Hr.out.g3;go_enter Tryz.func52,Tryz.ntmps52;go_wp2_with fail;refine(rF.out _).mono ?_;rintro e w1 ⟨rfl,ae⟩;clear r0 ai r1 aj r2 aC;replace Hr:=kB Hr ae;obtain⟨r0,ai,r1,aj,r2,aC⟩:=Hr.out.g3;replace Hb:=au Hb ae;clear ae;go_wp2;clear r0 ai r1 aj r2 aC;refine fF (bz w1 (w.heap.size) 0 [.bool (ar (dN D)),.string (bs (nt (dN D).natAbs)),.int .i64 (dE D)]) bF ?_;intro w9 hs;replace Hr:=bX Hr hs;obtain⟨r0,ai,r1,aj,r2,aC⟩:=Hr.out.g3;replace Hb:=bS Hb hs ZS;clear hs;refine bodyPost_ret (v:=bC D) (by simp[results,Tryz.results52,go_sem,r0,r1,r2]) rfl ⟨rfl,Hb.out⟩
 | succ m ih=>
   intro hm a cap B R w hL hrow hsm hB ha hsl;obtain⟨i0,hi,hz0,hz1,hz2⟩:=info_parts Tryz.apl;obtain⟨j0,hj,hy0,hy1,hy2⟩:=info_parts Tryz.apq;have hG:cu (m+1) (bG R)=lV (cu m) (bG R) (m+1):=by rw[<-Yc (m+1) hm,<-(funext (λe=>Yc m zo e):mO m=cu m)];rfl
   have hent:=aeU hL hrow hsm;have Gk:=aka (B:=B) (e:=bG R) hm hent;have LR:lV (cu m) (bG R) 0=0:=rfl;have LU:∀k,lV (cu m) (bG R) (k+1)=lV (cu m) (bG R) k+(if k%2=1 then-(bG R 0 k*cu m (fZ (bG R) 0 k))else bG R 0 k*cu m (fZ (bG R) 0 k)):=λk=>rfl;have hV:∀k,k<m+1->Sm (4*B+6) (cu m (fZ (bG R) 0 k)):=λk hk=>zu zo (λa b ha hb=>hent _ _ (by split<;>omega) (by split<;>omega));have rU:=λk (hk:k<m+1) a' c' W (h1:jW W a' ((iq R 0 k).map λx=>x.map canon)) (h2:Sl a' m c')=>ih zo a' c' B (iq R 0 k) W (Ea R 0 k m hL zo) (NY R 0 k m hrow zo) (Xm hsm 0 k) hB h1 h2;have Mw:=λk (hk:k<m+1)=>Xl R 0 k m hL hrow zo zo zo;have kj:=λW (hW:Bw w W) i (hi:i<m+1)=>(ha.below hW).apB hL hrow i hi;have hmr:=λk j (hj:j<m)=>aif R k m hL j hj;have rY:=λk=>Ea R 0 k m hL zo;have kR:∀k (hk:k<m+1) (x:List Raw),(R.getD 0 []).map canon=x->∀(h:k<x.length),x[k]=canon (bG R 0 k):=by
    rintro k hk x rfl h;have h0:0<R.length:=by omega
    have hk2:k<R[0].length:=by rw[hrow _ (List.getElem_mem h0)];exact hk
    rw[aeS 0 k h0 hk2];simp[List.getD_eq_getElem?_getD,h0]
   have hU:∀k,k<m+1->Sm B (bG R 0 k):=λk hk=>hent 0 k zo hk;rw[hG];obtain⟨G,LS⟩:=aB (lV (cu m) (bG R));obtain⟨U,Ug⟩:=aB (bG R 0);obtain⟨V,CW⟩:∃V:Nat->Dyadic,(λk=>cu m (fZ (bG R) 0 k))=V:=⟨_,rfl⟩;have CX:∀k,cu m (fZ (bG R) 0 k)=V k:=λk=>by rw[<-CW]
   simp only[CX,Ug,LS]at Gk LR LU hV Mw kR hU;rw[LS];have Mx:∀k,k<m+1->∀a' c' W,jW W a' ((iq R 0 k).map λx=>x.map canon)->Sl a' m c'->Calls Tryz.prog 52 #[.slice a' m c'] W λe w'=>e=.returned (bC (V k))/\Bw W w':=λk hk a' c' W h1 h2=>by have h:=rU k hk a' c' W h1 h2;rwa [Mw k hk]at h
   clear rU Mw hent hG CX CW Ug LS ih ha hsm hrow;obtain⟨N,hN⟩:=aB (m+1);rw[hN]at hsl Gk hV kj kR hU Mx⊢;have hcap:=hsl.1;have hN4:N<=4:=by omega
   have hNp:1<=N:=by omega
   obtain⟨Hi,cG,cH,cE,Hj,gV,iL,iM,Zu,Zr,Zv,HV⟩:=fR hi hz0 hz1 hz2 hj hy0 hy1 hy2 Gk LR LU hV;obtain⟨HU,Hdt,rG,Hmr,Hml,Hr0,HN⟩:=pR hU Mx kj hmr rY kR hN;have hmN:m<N:=by omega
   clear hi hz0 hz1 hz2 hj hy0 hy1 hy2 Gk LR LU hV hU Mx kj hmr rY kR hN hL hsl;have hN0:((N:Int)==0)=false:=by simp;omega
   have hN1:¬N=0:=by omega
   obtain⟨W,dc,Hb,Hr,Hs⟩:=nO w 30 [.bool false,.string ⟨#[]⟩,.int .i64 0] 30 [.bool false,.string ⟨#[]⟩,.int .i64 0];obtain⟨r0,ai,r1,aj,r2,aC⟩:=Hr.out.g3;obtain⟨s0,bH,s1,bI,s2,bY⟩:=Hs.out.g3;go_enter Tryz.func52,Tryz.ntmps52;go_wp2_with fail;clear r0 ai r1 aj r2 aC s0 bH s1 bI s2 bY;first|refine bO (bz W (w.heap.size+1) 0 [.bool false,.string ⟨#[]⟩,.int .i64 0]) bF ?_|refine bK (bz W (w.heap.size+1) 0 [.bool false,.string ⟨#[]⟩,.int .i64 0]) bF ?_
   intro w1 hs;replace Hr:=kS Hr hs zo;replace Hs:=bX Hs hs;obtain⟨r0,ai,r1,aj,r2,aC⟩:=Hr.out.g3;obtain⟨s0,bH,s1,bI,s2,bY⟩:=Hs.out.g3;replace Hb:=bS Hb hs ZS;clear hs;have lr:=Hr.out.lt;have ls:=Hs.out.lt;go_wp2_with fail;go_loopw[4] (λi wr=>∃(k:Nat) (X:Dyadic),k<=N/\i=.int .i64 (k:Int)/\G k=X/\ak wr w.heap.size 30 [.bool false,.string ⟨#[]⟩,.int .i64 0]/\ak wr (w.heap.size+1) 30 (bo (canon X))/\Bw w wr) (λi _=>N-(intOf i).toNat);case atStart=>exact⟨0,0,Nat.zero_le _,rfl,Zr.out,Hr.out,Hs.out,Hb.out⟩
   case round=>
    clear r0 r1 r2 ai aj aC s0 s1 s2 bH bI bY Hr Hs;obtain⟨k,X,hk,rfl,hX,pr,ps,pb⟩:=hrel;by_cases hlt:k<N
    . have Hr:=ah pr;have Hs:Hid (ak wr (w.heap.size+1) 30 [.bool (ar (dN X)),.string (bs (nt (dN X).natAbs)),.int .i64 (dE X)]):=ps;obtain⟨fT,HX⟩:=aL pb hX;have Px:=pb.size;clear pr ps pb hX Hb;obtain⟨wo,hwo⟩:∃wo,wo=wr:=⟨_,rfl⟩;subst hwo;obtain⟨S,hS⟩:=aB ((iq R 0 k).map λx=>x.map canon);have gu:S.length=m:=by rw[<-hS,List.length_map];exact Hml.out k
      have ij:∀j,j<m->S.getD j []=((R.getD (j+1) []).map canon).take k++((R.getD (j+1) []).map canon).drop (k+1):=λj hj=>by rw[<-hS];exact Hmr.out k j hj
      have rU:=Hdt.out k hlt;rw[hS]at rU;obtain⟨Bg,jR,aal⟩:=cL gu ij rU;clear hS gu ij rU;have pE:(k:Int)<(N:Int):=by omega
      go_wp2_with fail;go_loopw[5,6] (λs5 x wr=>∃(i:Nat) (v:Value),1<=i/\i<=N/\x=.int .i64 (i:Int)/\v=s5/\jV 45 wr wo.heap.size S (i-1) v/\Bw wo wr) (λ_ x _=>N-(intOf x).toNat);case atStart=>exact⟨1,_,Nat.le_refl _,hNp,rfl,rfl,jV.nil _ _ _ _,Below.refl _ _⟩
      case round=>
       obtain⟨i,v,hi1,hiN,rfl,rfl,pv,pb⟩:=hrel;by_cases bj:i<N
       . obtain⟨b,o,b1,o1,c1,x,rfl,hx,hxl,hc1,hat,hnc⟩:=rG.out wr (aJ fT.out pb) i bj;have bD:=ug N cap i (i:Int) (rfl:(some ⟨b,o,none⟩:Option Addr)=_) bj rfl;rw[Nat.mul_one]at bD;obtain⟨j,hj⟩:=aB (i-1);have jG:i+1-1=j+1:=by omega
         have hjm:j<m:=by have:=HN.out;omega
         have xw:=jR.out j hjm;rw[show j+1=i by omega,hx]at xw;rw[hj]at pv;have hvl:=pv.lt;have gL:=hat.apI k;have kK:=hat.apA (n:=N) (cap:=c1) (k+1) hxl zo hnc;have ny:((x.take k).flatMap bo).length=k*3:=by rw[vT,List.length_take,Nat.min_eq_left zo]
         have hl2:((x.drop (k+1)).flatMap bo).length=(N-(k+1)) *3:=by rw[vT,List.length_drop,hxl]
         have Dl:(x.take k++x.drop (k+1)).length=k+(N-(k+1)):=by rw[List.length_append,List.length_take,List.length_drop,hxl,Nat.min_eq_left zo]
         have hsc:=(Sl.some ⟨b1,o1,none⟩ N c1 hnc).cut (k:=k+1) (size:=3) zo;have hkc:k<=c1:=by omega
         have hk1:k+1<=N:=by omega
         have GI:k+1<=c1:=by omega
         have gB:=pb.size;obtain⟨cK,aO,iU,sY,cn,eI,mo,iJ,EP,nR,iK,BL⟩:=fR pv pb gL kK ny hl2 Dl hsc xw hc1 hvl jG;clear pv pb gL kK ny hl2 Dl hsc xw hvl hx hxl hat jG hj;have Mt:(wr.alloc (.cells #[] 30)).cell? ⟨b,o+i,none⟩=some (.slice (some ⟨b1,o1,none⟩) N c1):=aG hc1;go_wp2_with (at_builtin;first| (refine oO rfl _ _ 45 rfl wr.heap.size 30 i0 _ 3 32 Tryz.underlying45 Hi.out cG.out cH.out cE.out rfl zd _ 0 [] rfl (World.ownsRow_made wr #[] 0 (Nat.le_refl _) (Nat.zero_le _) zm) (some ⟨b1,o1,none⟩) k c1 ((x.take k).flatMap bo) rfl (Sl.some _ _ _ hkc) cn.out (iU.out.below ((Below.refl _ wr).alloc (Nat.le_refl _) _)) (yi _) zx zo zm ?_;intro v1 w1 cP hg1 qY;have hb1:=((Below.refl _ wr).alloc (Nat.le_refl _) _).grown hg1 zm (λk hk=>by have h9:wr.heap.size=k:=Option.some.inj hk;omega);rw[Nat.zero_add,List.nil_append]at cP;have hc2:=cell_later hb1 nR.out;obtain⟨mz,bQ⟩:=aL cP hb1;have wj:=hb1.size;clear cP hb1 hg1 qY hc1 Mt) | (refine oO rfl _ _ 45 rfl wr.heap.size 30 i0 _ 3 32 Tryz.underlying45 Hi.out cG.out cH.out cE.out rfl zd v1 k ((x.take k).flatMap bo) rfl mz.out _ (N-(k+1)) (c1-(k+1)) ((x.drop (k+1)).flatMap bo) rfl iJ.out eI.out (sY.out.below bQ.out) (yi _) zx zo zo ?_;intro v2 w2 dO hg2 MX;obtain⟨av,cv,rfl,_,_⟩:=di dO;have hb2:=bQ.out.grown hg2 zo (λj e=>cJ mz.out j e);have hq2:Pd w2 v.ownBlock (.slice av (k+(N-(k+1))) cv) (x.take k++x.drop (k+1)):=Pd.own (by rw[List.flatMap_append];exact dO) mo.out (λg hg=>(iK.out g hg).2);obtain⟨bP,BU⟩:=aL hb2 hq2;have oM:=hb2.size;clear dO hg2 MX hb2 hq2) | (go_loud (refine PP rfl _ _ 78 rfl wo.heap.size 45 j0 _ Tryz.underlying78 Hj.out gV.out iL.out iM.out rfl v j S rfl ((cK.out.below bP.out).below zl) w2.heap.size 1 (.slice av (k+(N-(k+1))) cv) rfl ((ak.new w2 45 [.slice av (k+(N-(k+1))) cv]).cell 0) (by rw[EP.out];exact BU.out.below zl) zo zi ?_);intro v3 w3 zW hg3 Dt));have hb3:=(aJ (aJ aO.out bP.out) zl).grown hg3 zi Dt;go_roundw;case rel=>exact⟨i+1,v3,by omega,by omega,by go_num,rfl,by rw[BL.out];exact zW,hb3⟩
         case measure=>simp[intOf];omega
       . obtain rfl:i=N:=by omega
         rw[show i-1=m by have:=HN.out;omega]at pv;obtain⟨a5,c5,rfl,DI,pG⟩:=pv.tbl Bg.out;obtain⟨b,o,b1,o1,c1,x,rfl,hx,hxl,hc1,hat,hnc⟩:=rG.out wr (aJ fT.out pb) 0 zo;have xE:k<x.length:=by rw[hxl];exact hlt
         have hxk:=Hr0.out k hlt x hx xE;obtain⟨D,hD⟩:=aB (U k);obtain⟨E,hE⟩:=aB (V k);obtain⟨Y,hY⟩:=aB (D*E);have fG:=HU.out k hlt;have rQ:=HV.out k hlt;have fD:=Zu.out k zo;have hst:=Zv.out k;have rU:=aal.out a5 c5;rw[hD]at fG;rw[hE]at rQ rU;rw[HX.out]at fD hst;rw[hD,hE,hY]at hst;rw[hD]at hxk;obtain⟨b2,o2,dm,p0,p1,p2⟩:=hat.num k xE (show x[k]=(ar (dN D),nt (dN D).natAbs,dE D)from hxk);simp only[Option.some.injEq,Addr.mk.injEq,and_true]at dm;obtain⟨rfl,rfl⟩:=dm;have rS:Sm (5*B+6) Y:=by rw[<-hY];exact(Sm.mul fG rQ).mono zo
         have bD:=ug i cap 0 0 (rfl:(some ⟨b,o,none⟩:Option Addr)=_) zo rfl;have kN:=mK i c1 k (k:Int) (rfl:(some ⟨b1,o1,none⟩:Option Addr)=_) hlt rfl;rw[Nat.zero_mul,Nat.add_zero]at bD;rw[Nat.add_zero]at hc1;have Hu:Hid (aV wr b o [.slice (some ⟨b1,o1,none⟩) i c1]):=λj hj=>by
          obtain rfl:j=0:=by simp at hj;omega
          exact hc1
         have Hp:Hid (aV wr b1 (o1+k*3) [.bool (ar (dN D)),.string (bs (nt (dN D).natAbs)),.int .i64 (dE D)]):=fS p0 p1 p2;have Dq:∀W,Calls Tryz.prog 83 #[.agg #[.bool (ar (dN D)),.string (bs (nt (dN D).natAbs)),.int .i64 (dE D)],.agg #[.bool (ar (dN E)),.string (bs (nt (dN E).natAbs)),.int .i64 (dE E)]] W λe w'=>e=.returned (bC Y)/\Bw W w':=λW=>OQ _ _ _ _ _ _ Y (by show az (canon D) *az (canon E)=Y;rw[bU,bU];exact hY) W (fG.apj zo) (rQ.apj zo);have UJ:=λW (hW:Bw wr W)=>rU W (pG.below hW) DI;obtain⟨JZ,QI,yF,uz,cd,aO⟩:=gN Dq UJ rS fD hst pb;have gB:=pb.size;clear Dq UJ rS fD hst pb rU rQ fG hY hE hD hxk hx hxl hat hc1 p0 p1 p2 pG DI pv xE;have Hb:Hid (Bw wr wr):=Below.refl _ _;go_upto_region 13 with fail
         go_cut[8] (λs8 wx=>∃g:Nat,s8=.pointer (some ⟨g,0,none⟩)/\wr.heap.size<=g/\ak wx g 30 [.bool (ar (dN Y)),.string (bs (nt (dN Y).natAbs)),.int .i64 (dE Y)]/\Bw wr wx);case first=>
          have u0:=Hu.out.w1;obtain⟨p0,p1,p2⟩:=Hp.out.w3;have oP:∀w',iw wr w'->w'.cell? ⟨b,o,none⟩=some (.slice (some ⟨b1,o1,none⟩) i c1)/\w'.cell? ⟨b1,o1+k*3,none⟩=some (.bool (ar (dN D)))/\w'.cell? ⟨b1,o1+k*3+1,none⟩=some (.string (bs (nt (dN D).natAbs)))/\w'.cell? ⟨b1,o1+k*3+2,none⟩=some (.int .i64 (dE D)):=λw' h=>⟨cell_later h u0,cell_later h p0,cell_later h p1,cell_later h p2⟩;have aZ:Hid (iw wr wr):=Below.refl _ _;refine Ja (λw'=>iw wr w') (λi=>Nat.blt i 10) (.rd 0 (.rd 1 (.rd 2 (.rd 3 (.rd 4 (.rd 5 (.rd 6 (.br 7 9 (.br 8 9 (.lin [(9,false),(10,false)]) (.lin [(8,false),(10,false)])) (.lin [(7,false),(8,false),(10,false)]))))))))) zk zk rfl zk zc aZ.out.drew ?_;iterate 7 (refine OB rfl rfl (v:=?_) (λw' hw'=>?_) ?_;rotate_left;(focus have hw':=oP w' hw';obtain⟨q0,q1,q2,q3⟩:=hw';go_simp;try with_reducible rfl);try simp only[UU])
          clear u0 p0 p1 p2 Hu Hp oP;refine Av rfl rfl rfl rfl rfl rfl  (λK hK=>?_) (λK hK=>?_) 
          . go_simp;with_reducible refine(QI.out _ (by first|exact Hb.out|exact Hb.out.drew)).mono ?_
            rintro e w7 ⟨rfl,hq⟩;have ae:Bw wr w7:=by first|exact hq|exact aM hq
            replace aZ:=ah (aZ.out.below ae);replace Hb:=au Hb ae;clear ae;refine hK _ _ (λ_=>aZ.out) ?_;clear hK K;try simp only[UU]
            refine Av rfl rfl rfl rfl rfl rfl  (λK hK=>?_) (λK hK=>?_) 
            . go_simp;with_reducible refine(JZ.out _).mono ?_
              rintro e w8 ⟨rfl,hq⟩;have ae:Bw w7 w8:=by first|exact hq|exact aM hq
              replace aZ:=ah (aZ.out.below ae);replace Hb:=au Hb ae;clear ae;refine hK _ _ (λ_=>aZ.out) ?_;clear hK K;try simp only[UU]
              refine sM ?_;refine aI rfl rfl (λK hK=>?_);go_simp;have DZ:=Hb.out.size;refine hK _ _ (λ_=>by first|exact aZ.out.alloc _|exact(aZ.out.alloc _).drew|exact(aZ.out.drew).alloc _) ?_;clear hK K;try simp only[UU]
              refine bN (λW9=>ak W9 (w8.heap.size) 30 [.bool false,.string ⟨#[]⟩,.int .i64 0]/\Bw w8 W9) (by first|exact dP|exact dQ) ?_;rintro W9 ⟨qz,ae⟩;replace aZ:=ah (aZ.out.below ae);have Hz:=ah qz;clear qz;obtain⟨z0,jh,z1,iO,z2,oc⟩:=Hz.out.g3;replace Hb:=au Hb ae;clear ae;refine aI rfl rfl (λK hK=>?_);go_simp;refine hK _ _ (by first|exact λh=>absurd h zd|exact λ_=>aZ.out|exact λ_=>(by first|exact aZ.out.setCell zp _|exact(aZ.out.setCell zp _).setCell zp _|exact((aZ.out.setCell zp _).setCell zp _).setCell zp _)) ?_;clear hK K;try simp only[UU]
              simp only[aU];go_wp2_with fail;go_meet;exact⟨_,rfl,by omega,((Hz.out.set 0 _).set 1 _).set 2 _,((Hb.out.setCell zp _).setCell zp _).setCell zp _⟩
            . go_simp;have DZ:=Hb.out.size;refine hK _ _ (λ_=>by first|exact aZ.out.alloc _|exact(aZ.out.alloc _).drew|exact(aZ.out.drew).alloc _) ?_;clear hK K;try simp only[UU]
              refine IG (λW9=>ak W9 (w7.heap.size) 30 [.bool false,.string ⟨#[]⟩,.int .i64 0]/\Bw w7 W9) (by first|exact dP|exact dQ) ?_;rintro W9 ⟨qz,ae⟩;replace aZ:=ah (aZ.out.below ae);have Hz:=ah qz;clear qz;obtain⟨z0,jh,z1,iO,z2,oc⟩:=Hz.out.g3;replace Hb:=au Hb ae;clear ae;refine sM ?_;refine aI rfl rfl (λK hK=>?_);go_simp;with_reducible refine(JZ.out _).mono ?_
              rintro e w8 ⟨rfl,hq⟩;have ae:Bw W9 w8:=by first|exact hq|exact aM hq
              clear z0 jh z1 iO z2 oc;replace aZ:=ah (aZ.out.below ae);replace Hz:=kB Hz ae;obtain⟨z0,jh,z1,iO,z2,oc⟩:=Hz.out.g3;replace Hb:=au Hb ae;clear ae;refine hK _ _ (λ_=>aZ.out) ?_;clear hK K;try simp only[UU]
              refine aI rfl rfl (λK hK=>?_);go_simp;refine hK _ _ (by first|exact λh=>absurd h zd|exact λ_=>aZ.out|exact λ_=>(by first|exact aZ.out.setCell zp _|exact(aZ.out.setCell zp _).setCell zp _|exact((aZ.out.setCell zp _).setCell zp _).setCell zp _)) ?_;clear hK K;try simp only[UU]
              simp only[aU];go_wp2_with fail;go_meet;exact⟨_,rfl,by omega,((Hz.out.set 0 _).set 1 _).set 2 _,((Hb.out.setCell zp _).setCell zp _).setCell zp _⟩
          . go_simp;have DZ:=Hb.out.size;refine hK _ _ (λ_=>by first|exact aZ.out.alloc _|exact(aZ.out.alloc _).drew|exact(aZ.out.drew).alloc _) ?_;clear hK K;try simp only[UU]
            refine IG (λW9=>ak W9 (wr.heap.size) 30 [.bool false,.string ⟨#[]⟩,.int .i64 0]/\Bw wr W9) (by first|exact dP|exact dQ) ?_;rintro W9 ⟨qz,ae⟩;replace aZ:=ah (aZ.out.below ae);have Hz:=ah qz;clear qz;obtain⟨z0,jh,z1,iO,z2,oc⟩:=Hz.out.g3;replace Hb:=au Hb ae;clear ae;refine sM ?_;refine aI rfl rfl (λK hK=>?_);go_simp;with_reducible refine(QI.out _ (by first|exact Hb.out|exact Hb.out.drew)).mono ?_
            rintro e w7 ⟨rfl,hq⟩;have ae:Bw W9 w7:=by first|exact hq|exact aM hq
            clear z0 jh z1 iO z2 oc;replace aZ:=ah (aZ.out.below ae);replace Hz:=kB Hz ae;obtain⟨z0,jh,z1,iO,z2,oc⟩:=Hz.out.g3;replace Hb:=au Hb ae;clear ae;refine hK _ _ (λ_=>aZ.out) ?_;clear hK K;try simp only[UU]
            refine aI rfl rfl (λK hK=>?_);go_simp;with_reducible refine(JZ.out _).mono ?_
            rintro e w8 ⟨rfl,hq⟩;have ae:Bw w7 w8:=by first|exact hq|exact aM hq
            clear z0 jh z1 iO z2 oc;replace aZ:=ah (aZ.out.below ae);replace Hz:=kB Hz ae;obtain⟨z0,jh,z1,iO,z2,oc⟩:=Hz.out.g3;replace Hb:=au Hb ae;clear ae;refine hK _ _ (λ_=>aZ.out) ?_;clear hK K;try simp only[UU]
            refine aI rfl rfl (λK hK=>?_);go_simp;refine hK _ _ (by first|exact λh=>absurd h zd|exact λ_=>aZ.out|exact λ_=>(by first|exact aZ.out.setCell zp _|exact(aZ.out.setCell zp _).setCell zp _|exact((aZ.out.setCell zp _).setCell zp _).setCell zp _)) ?_;clear hK K;try simp only[UU]
            simp only[aU];go_wp2_with fail;go_meet;exact⟨_,rfl,by omega,((Hz.out.set 0 _).set 1 _).set 2 _,((Hb.out.setCell zp _).setCell zp _).setCell zp _⟩
         case rest=>
          obtain⟨g,rfl,hg,qd,qb⟩:=hcut;have dG:=aJ aO.out qb;obtain⟨wV,iX⟩:=aL (Hr.out.below dG) (Hs.out.below dG);have lr2:=Hr.out.lt;have NN:=Hs.out.lt;have lg:=qd.lt;obtain⟨Bp,uE⟩:=aL (aJ fT.out dG) qd;clear qd qb dG Hb Hu Hp;obtain⟨Z,hZ⟩:=aB (if k%2=1 then-Y else Y);obtain⟨X2,rR⟩:=aB (X+Z);have hst:=cd.out;rw[hZ,rR]at hst;have uW:Sm (5*B+6) Z:=by rw[<-hZ];split;exact yF.out.neg;exact yF.out
          have hpl:∀W,Calls Tryz.prog 54 #[.agg #[.bool (ar (dN X)),.string (bs (nt (dN X).natAbs)),.int .i64 (dE X)],.agg #[.bool (ar (dN Z)),.string (bs (nt (dN Z).natAbs)),.int .i64 (dE Z)]] W λe w'=>e=.returned (bC X2)/\Bw W w':=λW=>Eu _ _ _ _ _ _ X2 (by show az (canon X)+az (canon Z)=X2;rw[bU,bU];exact rR) W (uz.out.apj zo) (uW.apj zo);have Vx:k%2=1->∀W,Calls Tryz.prog 65 #[.agg #[.bool (ar (dN Y)),.string (bs (nt (dN Y).natAbs)),.int .i64 (dE Y)]] W λe w'=>e=.returned (bC Z)/\Bw W w':=λh W=>Yh _ _ _ Z (by show-az (canon Y)=Z;rw[bU,<-hZ,if_pos h]) W (yF.out.apj zo);have Mn:¬k%2=1->Y=Z:=λh=>by rw[<-hZ,if_neg h]
          obtain⟨Cc,lw,Hng⟩:=cL hst hpl Vx;clear hst hpl Vx uW rR hZ;have Hb:=Bp;have Hr:=wV;have Hs:=iX;have Hd:=uE;have hk4:k<=4:=by omega
          obtain⟨r0,r1,r2⟩:=Hr.out.c3;obtain⟨s0,bH,s1,bI,s2,bY⟩:=Hs.out.g3;obtain⟨d0,fu,d1,fw,d2,fx⟩:=Hd.out.g3;by_cases hp:k%2=1
          case neg=>
           obtain rfl:=Mn hp;clear Mn;have hkb:((k:Int)%2==1)=false:=by simp;omega
           go_wp2_with fail;refine(lw.out _).mono ?_;rintro e w7 ⟨rfl,ae⟩;clear r0 r1 r2 s0 bH s1 bI s2 bY d0 fu d1 fw d2 fx;replace Hr:=kB Hr ae;replace Hs:=kB Hs ae;replace Hd:=kB Hd ae;obtain⟨r0,r1,r2⟩:=Hr.out.c3;obtain⟨s0,bH,s1,bI,s2,bY⟩:=Hs.out.g3;obtain⟨d0,fu,d1,fw,d2,fx⟩:=Hd.out.g3;replace Hb:=au Hb ae;clear ae;go_wp2;go_roundw;case rel=>exact⟨k+1,X2,by omega,by go_num,Cc.out,(((Hr.out.so (w.heap.size+1) 0 zo _).so (w.heap.size+1) 1 zo _).so (w.heap.size+1) 2 zo _),((Hs.out.set 0 _).set 1 _).set 2 _,(((Hb.out.sc (w.heap.size+1) 0 ZS _).sc (w.heap.size+1) 1 ZS _).sc (w.heap.size+1) 2 ZS _)⟩
           case measure=>simp[intOf];omega
          clear Mn;have hkb:((k:Int)%2==1)=true:=by simp;omega
          go_wp2_with fail;refine(Hng.out hp _).mono ?_;rintro e w7 ⟨rfl,ae⟩;clear r0 r1 r2 s0 bH s1 bI s2 bY d0 fu d1 fw d2 fx;replace Hr:=kB Hr ae;replace Hs:=kB Hs ae;replace Hd:=kB Hd ae;obtain⟨r0,r1,r2⟩:=Hr.out.c3;obtain⟨s0,bH,s1,bI,s2,bY⟩:=Hs.out.g3;obtain⟨d0,fu,d1,fw,d2,fx⟩:=Hd.out.g3;replace Hb:=au Hb ae;clear ae;go_wp2_with fail;clear r0 r1 r2 s0 bH s1 bI s2 bY d0 fu d1 fw d2 fx;first|refine bO (bz w7 (g) 0 [.bool (ar (dN Z)),.string (bs (nt (dN Z).natAbs)),.int .i64 (dE Z)]) bF ?_|refine bK (bz w7 (g) 0 [.bool (ar (dN Z)),.string (bs (nt (dN Z).natAbs)),.int .i64 (dE Z)]) bF ?_
          intro W8 hs;replace Hr:=kS Hr hs zo;replace Hs:=kS Hs hs zo;replace Hd:=bX Hd hs;obtain⟨r0,r1,r2⟩:=Hr.out.c3;obtain⟨s0,bH,s1,bI,s2,bY⟩:=Hs.out.g3;obtain⟨d0,fu,d1,fw,d2,fx⟩:=Hd.out.g3;replace Hb:=bS Hb hs ZS;clear hs;go_wp2_with fail;refine(lw.out _).mono ?_;rintro e w9 ⟨rfl,ae⟩;clear r0 r1 r2 s0 bH s1 bI s2 bY d0 fu d1 fw d2 fx;replace Hr:=kB Hr ae;replace Hs:=kB Hs ae;replace Hd:=kB Hd ae;obtain⟨r0,r1,r2⟩:=Hr.out.c3;obtain⟨s0,bH,s1,bI,s2,bY⟩:=Hs.out.g3;obtain⟨d0,fu,d1,fw,d2,fx⟩:=Hd.out.g3;replace Hb:=au Hb ae;clear ae;go_wp2;go_roundw;case rel=>exact⟨k+1,X2,by omega,by go_num,Cc.out,(((Hr.out.so (w.heap.size+1) 0 zo _).so (w.heap.size+1) 1 zo _).so (w.heap.size+1) 2 zo _),((Hs.out.set 0 _).set 1 _).set 2 _,(((Hb.out.sc (w.heap.size+1) 0 ZS _).sc (w.heap.size+1) 1 ZS _).sc (w.heap.size+1) 2 ZS _)⟩
          case measure=>simp[intOf];omega
    . obtain rfl:k=N:=by omega
      have Hr:=ah pr;have Hs:Hid (ak wr (w.heap.size+1) 30 [.bool (ar (dN X)),.string (bs (nt (dN X).natAbs)),.int .i64 (dE X)]):=ps;obtain⟨Hb,HX⟩:=aL pb hX;clear pr ps pb hX;obtain⟨r0,ai,r1,aj,r2,aC⟩:=Hr.out.g3;obtain⟨s0,s1,s2⟩:=Hs.out.c3;go_wp2;clear r0 ai r1 aj r2 aC s0 s1 s2;refine fF (bz wr (w.heap.size) 0 [.bool (ar (dN X)),.string (bs (nt (dN X).natAbs)),.int .i64 (dE X)]) bF ?_;intro w9 hs;replace Hr:=bX Hr hs;replace Hs:=kS Hs hs zo;obtain⟨r0,ai,r1,aj,r2,aC⟩:=Hr.out.g3;obtain⟨s0,s1,s2⟩:=Hs.out.c3;replace Hb:=bS Hb hs ZS;clear hs;refine bodyPost_ret (v:=bC X) (by simp[results,Tryz.results52,go_sem,r0,r1,r2]) rfl ⟨by rw[HX.out],Hb.out⟩
theorem Yl (a:Option Addr)(cap n B:Nat)(rows:List (List Raw))(w:World)(hL:rows.length=n+1)(hn:1<=n)(cF:n<=4)(hrow:∀r∈rows,r.length=n)(hfit:∀r∈rows,∀c∈r,je B c)(hB:B<=1000)(ha:aR w a rows):
 Calls Tryz.prog 20 #[.slice a (n+1) cap] w λe w'=>e=.returned (bC (fp n (dR rows)))/\Bw w w':=by
 obtain⟨i0,hi,hz0,hz1,hz2⟩:=info_parts Tryz.apl;obtain⟨j0,hj,hy0,hy1,hy2⟩:=info_parts Tryz.apq;have h00:0<rows.length:=by omega
 have jv:rows.getD 0 []=rows[0]:=by simp[h00]
 obtain⟨S,hS⟩:=aB ((rows.drop 1).map λp=>iz (rows.getD 0 []) p);have gu:S.length=n:=by rw[<-hS];simp[hL]
 have om:∀r∈S,r.length=n:=by intro r hr;rw[<-hS]at hr;obtain⟨p,hp,rfl⟩:=List.mem_map.1 hr;rw[zw (by rw[jv,hrow _ (List.mem_of_mem_drop hp),hrow _ (List.getElem_mem h00)]),hrow _ (List.mem_of_mem_drop hp)]
 have jZ:∀r∈S,∀d∈r,Sm (B+1) d:=by intro r hr d hd;rw[<-hS]at hr;obtain⟨p,hp,rfl⟩:=List.mem_map.1 hr;unfold iz at hd;obtain⟨i,hi,rfl⟩:=List.mem_iff_getElem.1 hd;rw[List.getElem_zipWith];refine Sm.sub (hfit p (List.mem_of_mem_drop hp) _ (List.getElem_mem _)).2 (hfit (rows.getD 0 []) ?_ _ (List.getElem_mem _)).2;rw[jv];exact List.getElem_mem h00
 have hent:cu n (bG S)=fp n (dR rows):=by rw[CB];refine Cy n cF (λi j hi hj=>?_);rw[<-hS];exact Pm n rows hL hrow i j hi hj
 have ij:∀k (h1:k+1<rows.length),(S.map λx=>x.map canon).getD k []=(iz rows[0] rows[k+1]).map canon:=by
  intro k h1;subst hS;rw[jv];have h2:k<(rows.drop 1).length:=by simp;omega
  simp[List.getD_eq_getElem?_getD,h1]
 have jz:=λa' c' W (h1:jW W a' (S.map λx=>x.map canon)) (h2:Sl a' n c')=>ajT n cF a' c' (B+1) S W gu om jZ zo h1 h2;rw[hent]at jz;obtain⟨X,hX⟩:=aB (fp n (dR rows));rw[hX]at jz⊢;obtain⟨T,hT⟩:=aB (S.map λx=>x.map canon);rw[hT]at jz ij;have Uf:T.length=n:=by rw[<-hT,List.length_map,gu]
 obtain⟨zr,kR⟩:=aB (rows[0]);have Nj:=λW (hW:Bw w W) k (hk:k<rows.length)=>(ha.below hW).row k hk;have hw0:=λW (hW:Bw w W)=>Nj W hW 0 h00;have hn0:zr.length=n:=by rw[<-kR];exact hrow _ (List.getElem_mem _)
 have vk:∀x∈zr,je B x:=by rw[<-kR];exact hfit _ (List.getElem_mem _)
 simp only[kR,hn0]at hw0 ij;obtain⟨Hi,cG,cH,cE,Hj,gV,iL,iM,jR,wK,ZO,Hrw⟩:=fR hi hz0 hz1 hz2 hj hy0 hy1 hy2 ij jz Uf Nj;obtain⟨KG,rE,Bz,nU,wO,HL⟩:=gN hw0 hn0 vk hrow hfit hL;clear hi hz0 hz1 hz2 hj hy0 hy1 hy2 ij jz Uf Nj hw0 hn0 vk hrow hfit hL h00 jv hS gu om jZ hent hX hT kR ha;obtain⟨W,dc,Hb,Hr⟩:=iF w 30 [.bool false,.string ⟨#[]⟩,.int .i64 0];obtain⟨r0,ai,r1,aj,r2,aC⟩:=Hr.out.g3;go_enter Tryz.func20,Tryz.ntmps20;have lr:=Hr.out.lt;go_wp2_with fail;go_loopw[3,4] (λs3 x wr=>∃(i:Nat) (v:Value),1<=i/\i<=n+1/\x=.int .i64 (i:Int)/\v=s3/\jV 45 wr W.heap.size T (i-1) v/\Bw W wr) (λ_ x _=>n+1-(intOf x).toNat);case atStart=>exact⟨1,_,Nat.le_refl _,by omega,rfl,rfl,jV.nil _ _ _ _,Below.refl _ _⟩
 case round=>
  obtain⟨i,v,hi1,hiN,rfl,rfl,pv,pb⟩:=hrel;by_cases hlt:i<n+1
  . have hk2:i<rows.length:=by rw[HL.out];exact hlt
    obtain⟨j,hj⟩:=aB (i-1);have jG:i+1-1=j+1:=by omega
    obtain⟨p,gM⟩:=aB (rows[i]);obtain⟨b,o,a1,c1,hab,hc1,hat⟩:=Hrw.out wr (aJ Hb.out pb) i hk2;obtain⟨b',o',a0,c0,ou,hc0,fH⟩:=KG.out wr (aJ Hb.out pb);obtain⟨rfl,rfl⟩:b'=b/\o'=o:=by rw[ou]at hab;simp at hab;exact hab
    have ki:p.length=n:=by rw[<-gM];exact nU.out _ (List.getElem_mem hk2)
    have fJ:∀x∈p,je B x:=by rw[<-gM];exact wO.out _ (List.getElem_mem hk2)
    have ol:T.getD j []=(iz zr p).map canon:=by have h:=jR.out j zo;rw[h];congr 2;rw[<-gM];congr 1;omega
    rw[gM]at hc1 hat;rw[ki]at hc1;have nH:=fE (n+1) cap 0 0 hab zo rfl;have nI:=fE (n+1) cap i (i:Int) hab hlt rfl;rw[Nat.mul_one]at nH nI;rw[Nat.add_zero]at nH hc0;obtain⟨Z,hZ⟩:=aB (iz zr p);rw[hZ]at ol;have nj:Z.length=n:=by rw[<-hZ,zw (by rw[ki,rE.out]),ki]
    rw[hj]at pv;have hvl:=pv.lt;obtain⟨fc,gh,lA,lv,uy,HZ,mh,aO,cK,iK,BL,jB⟩:=fR hat fH ki fJ ol hZ nj pb pv hvl jG hab;obtain⟨nR,jD⟩:=aL hc1 hc0;clear hat fH ki fJ ol hZ nj pb pv hvl jG hab ou gM hc1 hc0;have gB:=aO.out.size;have hjn:j<n:=by omega
    clear hj;obtain⟨wc,hwc⟩:∃wc,wc=wr:=⟨_,rfl⟩;subst hwc;have pE:(i:Int)<(n:Int)+1:=by omega
    go_wp2_with fail;go_loopw[5,6] (λs5 x wr=>∃(k:Nat) (v2:Value),k<=n/\x=.int .i64 (k:Int)/\v2=s5/\wr.ownsRow wc.heap.size 30 3 v2 k (dC (Z.take k))/\Bw wc wr) (λ_ x _=>n-(intOf x).toNat);case atStart=>exact⟨0,_,Nat.zero_le _,rfl,rfl,World.ownsRow_nil _ _ _ _,Below.refl _ _⟩
    case round=>
     obtain⟨k,v2,hk,rfl,rfl,ho,hb2⟩:=hrel;have hc1:=cell_later hb2 nR.out;have hc0:=cell_later hb2 jD.out;by_cases bj:k<n
     . have k1:k<p.length:=by rw[lA.out];exact bj
       have k2:k<zr.length:=by rw[rE.out];exact bj
       obtain⟨sp,mp,ep,dZ⟩:=iA (p[k]);obtain⟨sq,mq,eq,fX⟩:=iA (zr[k]);have df:=lv.out _ (List.getElem_mem k1);have ez:=Bz.out _ (List.getElem_mem k2);rw[dZ]at df;rw[fX]at ez;obtain⟨D,hD⟩:=aB (az (sp,mp,ep)-az (sq,mq,eq));have iX:Hid (dC (Z.take (k+1))=dC (Z.take k)++[.bool (ar (dN D)),.string (bs (nt (dN D).natAbs)),.int .i64 (dE D)]):=by
        show _=_
        rw[<-HZ.out,SS _ _ _ k1 k2,qA,dZ,fX,hD];rfl
       obtain⟨b1,o1,bW,p0,p1,p2⟩:=(fc.out.below hb2).num k k1 dZ;obtain⟨b2,o2,dm,q0,q1,q2⟩:=(gh.out.below hb2).num k k2 fX;have MH:=iZ n c1 k (k:Int) bW bj rfl;have agn:=iZ n c0 k (k:Int) dm bj rfl;have gz:b1<wc.heap.size:=(by subst bW;exact fc.out.lt (by intro h0;have:=congrArg List.length h0;rw[vT]at this;simp at this;omega));have fK:b2<wc.heap.size:=(by subst dm;exact gh.out.lt (by intro h0;have:=congrArg List.length h0;rw[vT]at this;simp at this;omega));have lQ:b'<wc.heap.size:=World.block_lt_of_cell? wc _ jD.out;have Hu:Hid (aV wr b' (o'+i) [.slice a1 n c1]):=λj hj=>by
        obtain rfl:j=0:=by simp at hj;omega
        exact cell_later hb2 nR.out
       have Hv:Hid (aV wr b' o' [.slice a0 n c0]):=λj hj=>by
        obtain rfl:j=0:=by simp at hj;omega
        exact cell_later hb2 jD.out
       have Hp:Hid (aV wr b1 (o1+k*3) [.bool sp,.string (bs mp),.int .i64 ep]):=fS p0 p1 p2;have Hq:Hid (aV wr b2 (o2+k*3) [.bool sq,.string (bs mq),.int .i64 eq]):=fS q0 q1 q2;obtain⟨iH,jT,HD,Ho,lh⟩:=fg df ez hD ho hb2;have sQ:=hb2.size;have fT:=Hb;clear Hb ho hb2 df ez hD dZ fX bW dm p0 p1 p2 q0 q1 q2;have Hb:Hid (Bw wr wr):=Below.refl _ _;go_wp2_with fail;clear hc1 hc0;have u0:=Hu.out.w1;have v0:=Hv.out.w1;obtain⟨p0,p1,p2⟩:=Hp.out.w3;obtain⟨q0,q1,q2⟩:=Hq.out.w3;refine bJ (λw'=>w'.cell? ⟨b',o'+i,none⟩=some (.slice a1 n c1)/\w'.cell? ⟨b',o',none⟩=some (.slice a0 n c0)/\w'.cell? ⟨b1,o1+k*3,none⟩=some (.bool sp)/\w'.cell? ⟨b1,o1+k*3+1,none⟩=some (.string (bs mp))/\w'.cell? ⟨b1,o1+k*3+2,none⟩=some (.int .i64 ep)/\w'.cell? ⟨b2,o2+k*3,none⟩=some (.bool sq)/\w'.cell? ⟨b2,o2+k*3+1,none⟩=some (.string (bs mq))/\w'.cell? ⟨b2,o2+k*3+2,none⟩=some (.int .i64 eq)) (λi=>Nat.blt i 100000) [(0,true),(1,true),(2,true),(3,true),(4,true),(5,true),(6,true),(7,true),(8,true),(9,true),(10,true),(11,true),(12,true),(13,true),(14,false),(15,false),(16,false),(17,true)] zk zk rfl zk zc ⟨u0,v0,p0,p1,p2,q0,q1,q2⟩ ?_;iterate 14 (refine pT rfl rfl ?_ (by intro w' ⟨q0,q1,q2,q3,q4,q5,q6,q7⟩;go_simp;try with_reducible rfl);try simp only[UU])
       refine aI rfl rfl (λK hK=>?_);go_simp;with_reducible refine(II sp mp ep sq mq eq D HD.out _ iH.out.1 jT.out.1 (Sm.apj (Sm.neg jT.out.2) zo)).mono ?_
       rintro e w5 ⟨rfl,hq⟩;have ae:Bw wr w5:=by first|exact hq|exact aM hq
       clear u0 v0 p0 p1 p2 q0 q1 q2;replace Hu:=kW Hu ae;replace Hv:=kW Hv ae;replace Hp:=kW Hp ae;replace Hq:=kW Hq ae;have u0:=Hu.out.w1;have v0:=Hv.out.w1;obtain⟨p0,p1,p2⟩:=Hp.out.w3;obtain⟨q0,q1,q2⟩:=Hq.out.w3;replace Hb:=au Hb ae;clear ae;refine hK _ _ (λ_=>⟨u0,v0,p0,p1,p2,q0,q1,q2⟩) ?_;clear hK K;try simp only[UU]
       refine aI rfl rfl (λK hK=>?_);go_simp;refine hK _ _ (λ_=>⟨aG u0,aG v0,aG p0,aG p1,aG p2,aG q0,aG q1,aG q2⟩) ?_;clear hK K;try simp only[UU]
       refine bN (λw7=>ak w7 (w5.heap.size) 30 [.bool (ar (dN D)),.string (bs (nt (dN D).natAbs)),.int .i64 (dE D)]/\Bw w5 w7) (by first|exact dP|exact dQ) ?_;rintro w7 ⟨qc,ae⟩;clear u0 v0 p0 p1 p2 q0 q1 q2;replace Hu:=kW Hu ae;replace Hv:=kW Hv ae;replace Hp:=kW Hp ae;replace Hq:=kW Hq ae;have Hc:=ah qc;clear qc;have u0:=Hu.out.w1;have v0:=Hv.out.w1;obtain⟨p0,p1,p2⟩:=Hp.out.w3;obtain⟨q0,q1,q2⟩:=Hq.out.w3;obtain⟨c0,c1,c2⟩:=Hc.out.c3;replace Hb:=au Hb ae;clear ae;refine aI rfl rfl (λK hK=>?_);have cm:=ownsRow_below Ho.out Hb.out;have ia:=Hb.out.size;refine wp_append_own _ _ _ 45 rfl wc.heap.size 30 i0 _ 3 32 Tryz.underlying45 Hi.out cG.out cH.out cE.out rfl zd v2 k (dC (Z.take k)) rfl cm ⟨w5.heap.size,0,none⟩ 1 1 [.bool (ar (dN D)),.string (bs (nt (dN D).natAbs)),.int .i64 (dE D)] rfl rfl (fM Hc.out) zy zx zo zo ?_;intro v' w8 dv aY _;obtain⟨g',cq,rfl⟩:=ownsRow_succ dv;have nb:∀b,b<wc.heap.size->some b≠v2.ownBlock:=λb hb e=>by have:=cJ cm b e.symm;omega
       refine hK _ _ (λ_=>⟨bE aY u0 (nb _ lQ),bE aY v0 (nb _ lQ),bE aY p0 (nb _ gz),bE aY p1 (nb _ gz),bE aY p2 (nb _ gz),bE aY q0 (nb _ fK),bE aY q1 (nb _ fK),bE aY q2 (nb _ fK)⟩) ?_;clear hK K;try simp only[UU]
       refine pT rfl rfl ?_;try simp only[UU]
       simp only[aU];clear u0 v0 p0 p1 p2 q0 q1 q2 c0 c1 c2;go_wp2;go_roundw;case rel=>
        refine⟨k+1,_,by omega,by go_num,rfl,?_,?_⟩
        . rw[iX.out];exact dv
        . exact(aJ lh.out Hb.out).grown aY zo (λj e=>cJ cm j e)
       case measure=>simp[intOf];omega
     . obtain rfl:k=n:=by omega
       have fW:Z.take k=Z:=List.take_of_length_le (by rw[mh.out];exact Nat.le_refl _);rw[fW,qC]at ho;have hq2:Pd wr v.ownBlock v2 (Z.map canon):=Pd.own ho (by rw[List.length_map];exact mh.out) (λg hg=>(iK.out g hg).2);obtain⟨av,cv,rfl,_,_⟩:=di ho;obtain⟨BU,bP⟩:=aL hq2 hb2;have oM:=hb2.size;clear ho hq2 hb2 fW;go_wp2_with (at_builtin;refine PP rfl _ _ 78 rfl W.heap.size 45 j0 _ Tryz.underlying78 Hj.out gV.out iL.out iM.out rfl v j T rfl ((cK.out.below bP.out).below zl) wr.heap.size 1 (.slice av k cv) rfl ((ak.new wr 45 [.slice av k cv]).cell 0) (by rw[uy.out];exact BU.out.below zl) zo zi ?_;intro v3 w3 zW hg3 Dt);have hb3:=(aJ (aJ aO.out bP.out) zl).grown hg3 zi Dt;go_roundw;case rel=>exact⟨i+1,v3,by omega,by omega,by go_num,rfl,by rw[BL.out];exact zW,hb3⟩
       case measure=>simp[intOf];omega
  . obtain rfl:i=n+1:=by omega
    rw[Nat.add_sub_cancel]at pv;obtain⟨a5,c5,rfl,DI,pG⟩:=pv.tbl ZO.out;have wV:=Hr.out.below pb;have dG:=aJ Hb.out pb;have hd:=wK.out a5 c5 wr pG DI;have Hd:=ah hd;clear hd pv pG DI Hb pb r0 r1 r2 ai aj aC Hr;obtain⟨Hb,Hr⟩:=aL dG wV;clear dG wV;obtain⟨r0,ai,r1,aj,r2,aC⟩:=Hr.out.g3;go_wp2_with fail;refine(Hd.out).mono ?_;rintro e w5 ⟨rfl,ae⟩;clear r0 ai r1 aj r2 aC;replace Hr:=kB Hr ae;obtain⟨r0,ai,r1,aj,r2,aC⟩:=Hr.out.g3;replace Hb:=au Hb ae;clear ae;go_wp2;clear r0 ai r1 aj r2 aC;refine fF (bz w5 (w.heap.size) 0 [.bool (ar (dN X)),.string (bs (nt (dN X).natAbs)),.int .i64 (dE X)]) bF ?_;intro w9 hs;replace Hr:=bX Hr hs;obtain⟨r0,ai,r1,aj,r2,aC⟩:=Hr.out.g3;replace Hb:=bS Hb hs ZS;clear hs;refine bodyPost_ret (v:=bC X) (by simp[results,Tryz.results20,go_sem,r0,r1,r2]) rfl ⟨rfl,Hb.out⟩
theorem ajR (a:Option Addr)(L cap B:Nat)(rows:List (List Raw))(w:World)(hL:rows.length=L)(h5:L<=5)(hfit:∀r∈rows,∀c∈r,je B c)(hB:B<=1000)(ha:aR w a rows):
 Calls Tryz.prog 16 #[.slice a L cap] w λe w'=>e=.returned (.int .i64 (jM rows))/\Bw w w':=by
 obtain⟨V,hV⟩:=aB (fB rows);have hvar:=λW (hW:Bw w W)=>OT a L cap rows V W hL zo (ha.below hW) hV;by_cases h0:V=0
 . subst h0;have e:jM rows=1:=by unfold jM;rw[if_pos hV]
   rw[e];have rH:=ah hvar;clear hvar hfit ha hV e hL;have Hb:Hid (Bw w w):=Below.refl _ _;go_enter Tryz.func16,Tryz.ntmps16;go_wp2_with fail;refine(rH.out _ Hb.out).mono ?_;rintro e w1 ⟨rfl,ae⟩;replace Hb:=au Hb ae;clear ae;go_wp2;refine bodyPost_ret (results_tmp rfl _ _ _) rfl ⟨rfl,Hb.out⟩
 . obtain⟨m,hm,hrl⟩:∃m,L=m+2/\∀r∈rows,r.length=m+1:=by obtain⟨c1,c2,c3,c4⟩:=yz hV h0;exact⟨L-2,by omega,λr hr=>by have:=c4 r hr;omega⟩
   have hV2:fB rows=((m+1:Nat):Int):=yx (by rw[hL,hm]) hrl zo zo;obtain rfl:V=((m+1:Nat):Int):=by rw[<-hV,hV2]
   obtain⟨X,hX⟩:=aB (fp (m+1) (dR rows));obtain⟨g,hg⟩:=aB (cw X);have e:jM rows=if g=0 then 5 else 0:=by
    unfold jM;rw[if_neg (by rw[hV2];omega),hV2,Int.toNat_natCast,hX];have:=Lv X;rw[hg]at this;by_cases h:X=0
    . rw[if_pos h,if_pos (this.2 h)]
    . rw[if_neg h,if_neg (λh2=>h (this.1 h2))]
   rw[e];have hsz:=λW (hW:Bw w W)=>Yl a cap (m+1) B rows W (by rw[hL,hm]) zo zo hrl hfit hB (ha.below hW);rw[hX]at hsz;have fD:Sm (4*B+10) X:=by
    rw[<-hX];refine(Lp (B:=B+1) zo zo (λi j hi hj=>?_)).mono zo;have hps:∀a b,a<=m+1->b<m+1->Sm B (dR rows a b):=λa b h1 h2=>by
     have ha1:a<rows.length:=by omega
     have hb1:b<rows[a].length:=by rw[hrl _ (List.getElem_mem ha1)];exact h2
     have ee:dR rows a b=az rows[a][b]:=by unfold dR bG;simp[List.getD_eq_getElem?_getD,ha1,hb1]
     rw[ee];exact(hfit _ (List.getElem_mem ha1) _ (List.getElem_mem hb1)).2
    exact CC hps i j hi hj
   have il:=λW=>AE (ar (dN X)) (nt (dN X).natAbs) (dE X) g (by show cw (az (canon X))=g;rw[bU];exact hg) W (by have:=(fD.apj zo).1;exact Nat.le_trans this zd);obtain⟨rH,mA,jU⟩:=cL hvar hsz il;clear hvar hsz il hfit ha hV hV2 e hX hg fD hrl hL;obtain⟨n,hn⟩:=aB (m+1);have hmn:L=n+1:=by omega
   simp only[hn]at rH mA h0⊢;subst hmn;have hn0:1<=n:=by omega
   clear hn hm;have hb0:((n:Int)==0)=false:=by simpa using h0
   have hb1:¬(n:Int)=0:=h0;have Hb:Hid (Bw w w):=Below.refl _ _;go_enter Tryz.func16,Tryz.ntmps16;go_wp2_with fail;refine(rH.out _ Hb.out).mono ?_;rintro e w1 ⟨rfl,ae⟩;replace Hb:=au Hb ae;clear ae;go_wp2_with fail;refine(mA.out _ Hb.out).mono ?_;rintro e w2 ⟨rfl,ae⟩;replace Hb:=au Hb ae;clear ae;go_wp2_with fail;refine(jU.out _).mono ?_;rintro e w3 ⟨rfl,ae⟩;replace Hb:=au Hb ae;clear ae;by_cases hg0:g=0
   . subst hg0;go_wp2;refine bodyPost_ret (results_tmp rfl _ _ _) rfl ⟨rfl,Hb.out⟩
   . have hgb:(g==0)=false:=by simpa using hg0
     go_wp2;refine bodyPost_ret (results_tmp rfl _ _ _) rfl ⟨rfl,Hb.out⟩
theorem akb (a:Option Addr)(L cap:Nat)(rows:List (List Raw))(w:World)(hL:rows.length=L)(hl:L<=5)(hr:∀r∈rows,r.length<=5)(ha:jW w a rows):
 Calls Tryz.prog 11 #[.slice a L cap] w λe w'=>∃a' c',e=.returned (.slice a' L c')/\L<=c'/\aR w' a' rows/\Bw w w':=by
 obtain⟨i0,hi,hz0,hz1,hz2⟩:=info_parts Tryz.apl;obtain⟨j0,hj,hy0,hy1,hy2⟩:=info_parts Tryz.apo;obtain⟨Hi,cG,cH,cE,Hj,gV,iL,iM,Ha,HL,Hr⟩:=aht hi hz0 hz1 hz2 hj hy0 hy1 hy2 ha hL hr;clear hi hz0 hz1 hz2 hj hy0 hy1 hy2 ha hL hr;go_enter Tryz.func11,Tryz.ntmps11;have Hb:Hid (Bw w w):=Below.refl _ _;go_wp2_with fail;go_loopw[3,4] (λs3 x wr=>∃(k:Nat) (v:Value),k<=L/\x=.int .i64 (k:Int)/\v=s3/\jV 46 wr w.heap.size rows k v/\Bw w wr) (λ_ x _=>L-(intOf x).toNat);case atStart=>exact⟨0,_,Nat.zero_le _,rfl,rfl,jV.nil _ _ _ _,Hb.out⟩
 case round=>
  clear Hb;obtain⟨k,v,hk,rfl,rfl,pv,pb⟩:=hrel;by_cases hlt:k<L
  . have hkr:k<rows.length:=by rw[HL.out];exact hlt
    obtain⟨b,o,a1,c1,rfl,hc1,hat,hsc⟩:=(Ha.out.below pb).row k hkr;have bD:=fE L cap k (k:Int) (rfl:(some ⟨b,o,none⟩:Option Addr)=_) hlt rfl;rw[Nat.mul_one]at bD;obtain⟨x,hx⟩:=aB (rows[k]);have hx5:x.length<=5:=by rw[<-hx];exact Hr.out _ (List.getElem_mem hkr)
    have VS:rows.getD k []=x:=by rw[<-hx];simp[hkr]
    rw[hx]at hc1 hat hsc;obtain⟨n,hn⟩:=aB x.length;rw[hn]at hc1 hsc hx5;have ny:(x.flatMap bo).length=n*3:=by rw[vT,hn]
    have hvl:=pv.lt;have gB:=pb.size;obtain⟨cK,aO,fc,cn,iJ,Hrk,nR,iK,Hn⟩:=Ig pv pb hat ny hsc VS hc1 hvl hn;clear pv pb hat ny hsc VS hvl hn hx hkr;have Mt:(wr.alloc (.cells #[] 30)).cell? ⟨b,o+k,none⟩=some (.slice a1 n c1):=aG hc1;go_wp2_with (at_builtin;first| (refine oO rfl _ _ 46 rfl wr.heap.size 30 i0 _ 3 32 Tryz.underlying46 Hi.out cG.out cH.out cE.out rfl zd _ 0 [] rfl (World.ownsRow_made wr #[] 0 (Nat.le_refl _) (Nat.zero_le _) zm) a1 n c1 (x.flatMap bo) rfl iJ.out cn.out (fc.out.below ((Below.refl _ wr).alloc (Nat.le_refl _) _)) (yi _) zx zo zm ?_;intro v1 w1 cP hg1 qY;have hb1:=((Below.refl _ wr).alloc (Nat.le_refl _) _).grown hg1 zm (λk hk=>by have h9:wr.heap.size=k:=Option.some.inj hk;omega);rw[Nat.zero_add,List.nil_append]at cP;obtain⟨av,cv,rfl,_,_⟩:=di cP;have hq1:Pd w1 v.ownBlock (.slice av n cv) x:=Pd.own cP Hn.out (λg hg=>(iK.out g hg).2);obtain⟨bQ,wU⟩:=aL hb1 hq1;have wj:=hb1.size;clear cP hb1 hg1 qY hc1 Mt hq1) | (go_loud (refine PP rfl _ _ 23 rfl w.heap.size 46 j0 _ Tryz.underlying23 Hj.out gV.out iL.out iM.out rfl v k rows rfl ((cK.out.below bQ.out).below zl) w1.heap.size 1 (.slice av n cv) rfl ((ak.new w1 46 [.slice av n cv]).cell 0) (by rw[Hrk.out];exact wU.out.below zl) zo zi ?_);intro v3 w3 zW hg3 Dt));have hb3:=(aJ (aJ aO.out bQ.out) zl).grown hg3 zi Dt;go_roundw;case rel=>exact⟨k+1,v3,by omega,by go_num,rfl,zW,hb3⟩
    case measure=>simp[intOf];omega
  . obtain rfl:k=L:=by omega
    obtain⟨a2,c2,rfl,hcl,iR⟩:=jV.tbl pv HL.out;obtain⟨mY,aO⟩:=aL iR.tbl pb;have hcc:=hcl.1;clear pv pb iR hcl;go_wp2;refine bodyPost_ret (results_tmp rfl _ _ _) rfl ⟨a2,c2,rfl,hcc,mY.out,aO.out⟩
end Go.Proofs.YtdaadlblknpipaaGreatDoor
