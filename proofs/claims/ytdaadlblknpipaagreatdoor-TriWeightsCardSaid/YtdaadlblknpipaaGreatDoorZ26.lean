/- A row of zeros made;one of them put to 1. -/
import Derived.Test.YtdaadlblknpipaaGreatDoorZ25
import Derived.Test.YtdaadlblknpipaaGreatDoorZ23
set_option linter.unusedVariables false
set_option linter.unusedSimpArgs false
set_option maxRecDepth 100000
set_option maxHeartbeats 16000000
namespace Go.Proofs.YtdaadlblknpipaaGreatDoor
open Go.RowKit
theorem ajA (c:Int)(n:Nat)(hc:c=n)(h:n<=1048576)(w:World):
 (Instr.makeSlice 46 (.int .i64 c) (.int .i64 c)).run Tryz.prog w=.ok (.slice (some ⟨w.heap.size,0,none⟩) n n) (w.alloc (.cells (dC (List.replicate n 0)).toArray 30)):=by
 subst hc;obtain⟨i0,hi,hz0,hz1,hz2⟩:=info_parts Tryz.aqU;rw[run_make (P:=Tryz.prog) w 46 30 i0 _ Tryz.underlying46 hi hz0 .i64 .i64 n n zo zo (by rw[hz2];omega) zo];simp only[Int.toNat_natCast,hz1];rw[ajq]
theorem alX (n k:Nat)(hn:n<=4)(hk:k<n):(((dC (List.replicate n 0)).set (k*3) (.bool (ar (dN (1:Dyadic))))).set (k*3+1) (.string (bs (nt (dN (1:Dyadic)).natAbs)))).set (k*3+2) (.int .i64 (dE (1:Dyadic)))=dC ((List.range n).map (fV k)):=by
 have h0:∀b,¬b=k->fV k b=0:=λb h=>by unfold fV;rw[if_neg h]
 have h1:fV k k=1:=by unfold fV;rw[if_pos rfl]
 have hc:n=0\/n=1\/n=2\/n=3\/n=4:=by omega
 have hd:k=0\/k=1\/k=2\/k=3:=by omega
 rcases hc with rfl|rfl|rfl|rfl|rfl<;>rcases hd with rfl|rfl|rfl|rfl<;>first| (exfalso;omega) | (simp[List.range,List.range.loop,fV,dC,List.replicate,List.flatMap];rfl)
theorem anw (n:Nat):fE ((List.replicate n (0:Dyadic)).map canon)=λ_=>0:=by
 funext b
 unfold fE;rw[List.map_map,show(aC∘canon)=id from funext bP,List.map_id];simp[List.getD_eq_getElem?_getD,List.getElem?_replicate];split<;>rfl
theorem anx (n k:Nat)(hk:k<n):fE (((List.range n).map (fV k)).map canon)=fV k:=by
 funext b
 unfold fE;rw[List.map_map,show(aC∘canon)=id from funext bP,List.map_id];by_cases h:b<n
 . simp[List.getD_eq_getElem?_getD,h]
 . have:fV k b=0:=by unfold fV;rw[if_neg zo]
   simp[List.getD_eq_getElem?_getD,h,this]
theorem ZK (k b:Nat):Sm 1 (fV k b):=by
 unfold fV;split
 . exact Sm.one
 . exact Sm.zero _
theorem At.dn {w:World}{a:Option Addr}{ds:List Dyadic}(h:At w a (dC ds))(j:Nat)(hj:j<ds.length){D:Dyadic}(hD:ds[j]=D):∃b o,a=some ⟨b,o,none⟩/\bB w b (o+j*3) [.bool (ar (dN D)),.string (bs (nt (dN D).natAbs)),.int .i64 (dE D)]:=by rw[pq]at h;obtain⟨b,o,h1,h2,h3,h4⟩:=h.num j (by rw[List.length_map];exact hj) (show(ds.map canon)[j]'(by rw[List.length_map];exact hj)=(ar (dN D),nt (dN D).natAbs,dE D)by rw[List.getElem_map,hD];rfl);exact⟨b,o,h1,iB h2 h3 h4⟩
theorem Tp {B:Nat}{ds:List Dyadic}(h:∀d∈ds,Sm B d)(hB:B<=16384):∀x∈ds.map canon,gY B x:=λx hx=>by obtain⟨d,hd,rfl⟩:=List.mem_map.1 hx;exact gY.canon (h d hd) hB
end Go.Proofs.YtdaadlblknpipaaGreatDoor
namespace Go.Proofs.YtdaadlblknpipaaGreatDoor
open Go.RowKit
attribute [local go_sem ↓] Go.wp_at_zero Go.wp_at_succ
theorem aka (ds:List Dyadic)(n:Nat)(a a':Option Addr)(cap cap':Nat)(w:World)(hn:ds.length=n)(hl:n<=1000)(ha:At w a (dC ds))(ha':At w a' (dC ds)):
 Calls Tryz.prog 29 #[.slice a n cap,.slice a' n cap'] w λe w'=>e=.returned (.bool true)/\Bw w w':=by
 obtain⟨Ha,oO,Hn⟩:=cX ha ha' hn;clear ha ha' hn;have Hb:Hid (Bw w w):=Below.refl _ _;go_enter Tryz.func29,Tryz.ntmps29;go_wp2_with fail;go_loopw[5] (λx wr=>∃k:Nat,k<=n/\x=.int .i64 (k:Int)/\Bw w wr) (λx _=>n-(intOf x).toNat);case atStart=>exact⟨0,Nat.zero_le _,rfl,Hb.out⟩
 case round=>
  clear Hb;obtain⟨k,hk,rfl,pb⟩:=hrel;by_cases hlt:k<n
  . have hk2:k<ds.length:=by rw[Hn.out];exact hlt
    obtain⟨D,hD⟩:=aB (ds[k]);obtain⟨b3,o3,rfl,h3⟩:=(Ha.out.below pb).dn k hk2 hD;obtain⟨b4,o4,rfl,h4⟩:=(oO.out.below pb).dn k hk2 hD;have ix3:=jC n cap k (k:Int) (rfl:(some ⟨b3,o3,none⟩:Option Addr)=_) hlt rfl;have ix4:=jC n cap' k (k:Int) (rfl:(some ⟨b4,o4,none⟩:Option Addr)=_) hlt rfl;obtain⟨Hx,Hy,aQ⟩:=cX h3 h4 pb;clear h3 h4 pb hD;have Hb:Hid (Bw wr wr):=Below.refl _ _;obtain⟨x0,x1,x2⟩:=Hx.out.w3;obtain⟨y0,y1,y2⟩:=Hy.out.w3;go_wp2_with fail;refine bM (λw'=>w'.cell? ⟨b3,o3+k*3,none⟩=some (.bool (ar (dN D)))/\w'.cell? ⟨b3,o3+k*3+1,none⟩=some (.string (bs (nt (dN D).natAbs)))/\w'.cell? ⟨b3,o3+k*3+2,none⟩=some (.int .i64 (dE D))/\w'.cell? ⟨b4,o4+k*3,none⟩=some (.bool (ar (dN D)))/\w'.cell? ⟨b4,o4+k*3+1,none⟩=some (.string (bs (nt (dN D).natAbs)))/\w'.cell? ⟨b4,o4+k*3+2,none⟩=some (.int .i64 (dE D))) (λi=>Nat.blt i 100000) [(0,true),(1,true),(2,true),(3,true),(4,true),(5,true),(6,true),(7,true),(8,true)] zk zk rfl zk zc ⟨x0,x1,x2,y0,y1,y2⟩ ?_;iterate 9 (refine pT rfl rfl ?_ (by intro w' ⟨q0,q1,q2,q3,q4,q5⟩;go_simp;try with_reducible rfl);try simp only[UU])
    simp only[aZ];go_wp2;go_roundw;case rel=>exact⟨k+1,by omega,by go_num,aQ.out.drew⟩
    case measure=>simp[intOf];omega
  . obtain rfl:k=n:=by omega
    have aQ:=ah pb;clear pb;go_wp2;refine bodyPost_ret (results_tmp rfl _ _ _) rfl ⟨rfl,aQ.out⟩
theorem amI {w:World}{b V:Nat}{aP aU:Option Addr}{cP cU:Nat}{L U:List aL}(h:ak w b 57 [.int .i64 (V:Int),.slice aP L.length cP,.int .i64 (V:Int),.slice aU U.length cU])(hP:bR w aP cP L)(hU:bR w aU cU U):
 zE w b V (λi=>if i=0 then aP else aU) (λi=>if i=0 then cP else cU) (λi=>if i=0 then L else U):=λi hi=>by
 have hc:i=0\/i=1:=by omega
 rcases hc with rfl|rfl
 . exact⟨h.cell 0,h.cell 1,hP⟩
 . exact⟨h.cell 2,h.cell 3,hU⟩
theorem ZB {p:Nat->Prop}(h0:p 0)(h1:p 1):∀i,i<2->p i:=λi hi=>by
 have hc:i=0\/i=1:=by omega
 rcases hc with rfl|rfl
 . exact h0
 . exact h1
theorem alk (a:Option Addr)(cap n B:Nat)(rows:List (List Raw))(w:World)(hL:rows.length=n+1)(hn:1<=n)(bI:n<=4)(hrow:∀r∈rows,r.length=n)(hfit:∀r∈rows,∀c∈r,gY B c)(bT:1<=B)(hB:B<=500)(ha:bo w a rows)(h0:dz n (bJ rows)≠0):
 Calls Tryz.prog 24 #[.slice a (n+1) cap] w λe w'=>∃a' c' ps,e=.returned (.slice a' (n+1) c')/\n+1<=c'/\ps.length=n+1/\At w' a' (ps.flatMap iR)/\ic w' n (5*B+50) ps (fQ n (bJ rows) n)/\Bw w w':=by
 obtain⟨j0,hj,hy0,hy1,hy2⟩:=info_parts Tryz.aq6;have hv:=λW (hW:Bw w W)=>Pk a (n+1) cap rows (n:Int) W hL zo (ha.below hW) (ww hL hrow hn zo);have hps:∀i k,i<=n->k<n->Sm B (bJ rows i k):=λi k h1 h2=>by
  have hi1:i<rows.length:=by omega
  have hk1:k<rows[i].length:=by rw[hrow _ (List.getElem_mem hi1)];exact h2
  have ee:bJ rows i k=aC rows[i][k]:=by unfold bJ bG;simp[List.getD_eq_getElem?_getD,hi1,hk1]
  rw[ee];exact(hfit _ (List.getElem_mem hi1) _ (List.getElem_mem hk1)).2
 have hwz:=λW (hW:Bw w W) b (hb:ak W b 30 (dC (List.replicate n 0)))=>Pm a cap n B rows (some ⟨b,0,none⟩) n ((List.replicate n (0:Dyadic)).map canon) W hL hn bI hrow hfit zm (Tp (λd hd=>by rw[List.eq_of_mem_replicate hd];exact Sm.zero _) zo) zo (ha.below hW) (by rw[<-pq];exact At.aqS hb) h0;have WX:=λk (hk:k<n) W (hW:Bw w W) b (hb:ak W b 30 (dC ((List.range n).map (fV k))))=>Pm a cap n B rows (some ⟨b,0,none⟩) n (((List.range n).map (fV k)).map canon) W hL hn bI hrow hfit zm (Tp (λd hd=>by obtain⟨i,_,rfl⟩:=List.mem_map.1 hd;exact(ZK k i).mono bT) zo) zo (ha.below hW) (by rw[<-pq];exact At.aqS hb) h0;simp only[anw]at hwz;have Ix:∀k,k<n->∀j,j<n+1->∀W,Bw w W->∀b,ak W b 30 (dC ((List.range n).map (fV k)))->Calls Tryz.prog 27 #[.slice a (n+1) cap,.slice (some ⟨b,0,none⟩) n n] W λe w'=>∃b8 o8 c8,e=.returned (.slice (some ⟨b8,o8,none⟩) (n+1) c8)/\(∀W,Sem.run Tryz.prog (Instr.indexAt 45 (.slice (some ⟨b8,o8,none⟩) (n+1) c8) (.int .i64 (j:Int))) W=Result.ok (.pointer (some ⟨b8,o8+j*3,none⟩)) W)/\
  w'.cell? ⟨b8,o8+j*3,none⟩=some (.bool (ar (dN (gq n (bJ rows) (fV k) j))))/\w'.cell? ⟨b8,o8+j*3+1,none⟩=some (.string (bs (nt (dN (gq n (bJ rows) (fV k) j)).natAbs)))/\w'.cell? ⟨b8,o8+j*3+2,none⟩=some (.int .i64 (dE (gq n (bJ rows) (fV k) j)))/\Bw W w':=by
  intro k hk j hj W hW b hb;refine(WX k hk W hW b hb).mono ?_;rintro e w' ⟨a',c',rfl,hc,hat,hbl⟩;rw[anx n k hk]at hat;obtain⟨b8,o8,rfl,hw⟩:=hat.dn j (by simp[gX];omega) (D:=gq n (bJ rows) (fV k) j) (by simp[gX]);obtain⟨q0,q1,q2⟩:=hw.w3;exact⟨b8,o8,c',rfl,jC (n+1) c' j (j:Int) rfl hj rfl,q0,q1,q2,hbl⟩
 have Mc:∀X:Nat->Dyadic,(∀b,b<n->Sm B (X b))->∀j,j<n+1->Sm (5*B+20) (gq n (bJ rows) X j):=λX hX j hj=>Qg hn bI hps hX _ (by unfold gX;exact List.mem_map.2 ⟨j,List.mem_range.2 hj,rfl⟩);have pG:=Mc (λ_=>0) (λb _=>Sm.zero _);have tB:=λk=>Mc (fV k) (λb _=>(ZK k b).mono bT);have jK:=λj (hj:j<n+1)=>agr n hn bI (bJ rows) j zo;have vp:=λj=>agq (B:=B) hn bI hps zo n (Nat.le_refl _) j;obtain⟨P,hP⟩:=aB (bJ rows);simp only[hP]at hwz Ix pG tB jK vp;rw[hP];obtain⟨F0,Gw⟩:∃F0:Nat->Dyadic,gq n P (λ_=>0)=F0:=⟨_,rfl⟩;obtain⟨F1,Ue⟩:∃F1:Nat->Nat->Dyadic,(λk=>gq n P (fV k))=F1:=⟨_,rfl⟩;have Ma:∀k j,gq n P (fV k) j=F1 k j:=λk j=>by rw[<-Ue]
 obtain⟨D,hD⟩:∃D:Nat->Nat->Dyadic,(λj k=>F1 k j-F0 j)=D:=⟨_,rfl⟩;have xz:∀j k,F1 k j-F0 j=D j k:=λj k=>by rw[<-hD]
 have GU:∀j,j<n+1->dD n (F0 j) (D j) n=fQ n P n j:=λj hj=>by have h:=jK j hj;simp only[Gw,Ma,xz]at h;exact h
 simp only[Ma,Gw]at Ix pG tB;have fJ:∀j k,j<n+1->Sm (5*B+21) (D j k):=λj k hj=>by rw[<-xz];exact Sm.sub (tB k j hj) (pG j hj)
 obtain⟨Wz,Mv⟩:=aB (gX n P λ_=>0);rw[Mv]at hwz;have gQ:∀j,j<n+1->∃h:j<Wz.length,Wz[j]=F0 j:=by rw[<-Mv];exact λj hj=>⟨by simp[gX];omega,by simp[gX,Gw]⟩
 have MJ:=λj (hj:j<n+1) W=>alc n (5*B+20) (ar (dN (F0 j))) (nt (dN (F0 j)).natAbs) (dE (F0 j)) (F0 j) (D j) W zo (gY.canon (pG j hj) zo) zo (bP _);have hsu:=λj k (hj:j<n+1) W=>YV (ar (dN (F1 k j))) (nt (dN (F1 k j)).natAbs) (dE (F1 k j)) (ar (dN (F0 j))) (nt (dN (F0 j)).natAbs) (dE (F0 j)) (D j k) (by show aC (canon (F1 k j))-aC (canon (F0 j))=D j k;rw[bP,bP,xz]) W ((tB k j hj).aqT zo) ((pG j hj).aqT zo) (Sm.aqT (Sm.neg (by show Sm (5*B+20) (aC (canon (F0 j)));rw[bP];exact pG j hj)) zo);have lK:=λk (hk:k<n) W=>YZ n k W zo hk;have hsc:=λj k (hj:j<n+1) aU cU W (hp:bR W aU cU (bF [(cL n k,canon 1)]))=>YT n aU cU (bF [(cL n k,canon 1)]) (ar (dN (D j k))) (nt (dN (D j k)).natAbs) (dE (D j k)) (D j k) (5*B+21) W ((EG (V:=n) (k:=k) zo Sm.one zd).mono zo) hp ((fJ j k hj).aqT zo) (by show Sm _ (aC (canon (D j k)));rw[bP];exact fJ j k hj) zo (bP _);simp only[Ze]at hsc;have UG:∀j k,j<n+1->gZ n (5*B+50) (bF [(cL n k,canon (D j k))]):=λj k hj=>(EG (V:=n) (k:=k) zo (fJ j k hj) zo).mono zo;have Uj:∀j k,j<n+1->k<=n->gZ n (5*B+50) (dD n (F0 j) (D j) k):=λj k hj hk=>(IB (B:=5*B+21) zo hk ((pG j hj).mono zo) (λi _=>fJ j i hj) zo).mono zo;have xA:∀j k,k<=n->(dD n (F0 j) (D j) k).length<=100:=λj k hk=>by have:=NZ n (F0 j) (D j) k;omega
 have UI:∀j k,(bF [(cL n k,canon (D j k))]).length<=100:=λj k=>by have:=xk [(cL n k,canon (D j k))];simp at this;omega
 have had:=λj k (hj:j<n+1) (hk:k<n) b W aP cP aU cU (hb:ak W b 57 [.int .i64 (n:Int),.slice aP (dD n (F0 j) (D j) k).length cP,.int .i64 (n:Int),.slice aU (bF [(cL n k,canon (D j k))]).length cU]) (hP:bR W aP cP (dD n (F0 j) (D j) k)) (hU:bR W aU cU (bF [(cL n k,canon (D j k))]))=>ak9 n (5*B+50) b _ _ _ (dD n (F0 j) (D j) (k+1)) W (amI hb hP hU) (ZB (Uj j k hj zo) (UG j k hj)) zo (ZB (xA j k zo) (UI j k)) (Xx n (F0 j) (D j) k)
 have hLn:∀j,j<n+1->gZ n (5*B+50) (fQ n P n j):=λj hj=>(vp j).mono zo;obtain⟨L,Ui⟩:∃L:Nat->Nat->List aL,(λj k=>dD n (F0 j) (D j) k)=L:=⟨_,rfl⟩;have Uk:∀j k,dD n (F0 j) (D j) k=L j k:=λj k=>by rw[<-Ui]
 obtain⟨U,CX⟩:∃U:Nat->Nat->List aL,(λj k=>bF [(cL n k,canon (D j k))])=U:=⟨_,rfl⟩;have UH:∀j k,bF [(cL n k,canon (D j k))]=U j k:=λj k=>by rw[<-CX]
 obtain⟨Z,hZ⟩:∃Z:Nat->List aL,(λk=>bF [(cL n k,canon 1)])=Z:=⟨_,rfl⟩;have UQ:∀k,bF [(cL n k,canon 1)]=Z k:=λk=>by rw[<-hZ]
 simp only[Uk,UH,UQ]at GU MJ hsc had lK;obtain⟨T,hT⟩:=aB (fQ n P n);simp only[hT]at GU hLn;rw[hT];obtain⟨O,hO⟩:∃O:Dyadic,(1:Dyadic)=O:=⟨_,rfl⟩;have hof:∀W,Calls Tryz.prog 62 #[.int .i64 1] W λe w'=>e=.returned (bH O)/\Bw W w':=λW=>Pg 1 O hO W zd;have Ai:=λk (hk:k<n)=>alX n k bI hk;simp only[hO]at Ai;have hmk:=λW=>ajA (n:Int) n rfl zo W;obtain⟨Hj,ir,jd,je,Hv,Hwz,Si,im,Hco,FC,wY,gM⟩:=gh hj hy0 hy1 hy2 hv hwz Ix gQ MJ hsu lK hsc;obtain⟨sL,uD,wD,oV,Hse,mY⟩:=gF had GU hLn hof Ai hmk;clear hj hy0 hy1 hy2 hv hwz WX Ix gQ MJ hsu lK hsc had GU hLn hof Ai hmk UG Uj xA UI fJ pG tB Mc jK vp Ui Uk CX UH hZ UQ hT hO Mv hD xz Gw Ue Ma hps hP h0 ha hL hrow hfit;have Hb:Hid (Bw w w):=Below.refl _ _;go_enter Tryz.func24,Tryz.ntmps24;go_wp2_with fail;refine(Hv.out _ Hb.out).mono ?_;rintro e w1 ⟨rfl,ae⟩;replace Hb:=az Hb ae;clear ae;have hmk:=mY.out;go_wp2_with fail;obtain⟨R,hR⟩:∃R:World->Prop,(λW3=>ak W3 w1.heap.size 30 (dC (List.replicate n 0))/\Bw w1 W3)=R:=⟨_,rfl⟩;first|refine bN R ?hR ?_|refine bL R ?hR ?_
 case hR=>subst hR;exact⟨ak.new w1 _ _,zl⟩
 subst hR;rintro W2 ⟨qm,ae⟩;replace Hb:=ah (aK Hb.out ae);clear ae hmk;refine(Hwz.out W2 Hb.out _ qm).mono ?_;rintro e w3 ⟨a3,c3,rfl,hc3,De,hq⟩;replace Hb:=ah (aK Hb.out hq);have yT:=ah De;clear qm hq De;go_wp2_with fail;go_loopw[5,6] (λs5 x wr=>∃(j:Nat) (v:Value) (ps:List Pv),j<=n+1/\x=.int .i64 (j:Int)/\v=s5/\ps.length=j/\wr.ownsRow w3.heap.size 57 2 v j (ps.flatMap iR)/\ic wr n (5*B+50) ps T/\Bw w3 wr) (λ_ x _=>n+1-(intOf x).toNat);case atStart=>exact⟨0,_,[],Nat.zero_le _,rfl,rfl,rfl,World.ownsRow_nil _ _ _ _,λk hk=>absurd hk (Nat.not_lt_zero _),Below.refl _ _⟩
 case round=>
  obtain⟨j,v,ps,hj,rfl,rfl,hpl,ho,hpo,pb⟩:=hrel;have Sc:=Hb;clear Hb;obtain⟨Ho,wT,aQ,ll⟩:=dS ho hpo pb hpl;clear ho hpo pb hpl;by_cases hlt:j<n+1
  . obtain⟨hjl,VM⟩:=im.out j hlt;obtain⟨b9,o9,rfl,rY⟩:=(yT.out.below aQ.out).dn j hjl VM;have NT:=jC (n+1) c3 j (j:Int) (rfl:(some ⟨b9,o9,none⟩:Option Addr)=_) hlt rfl;have Hq:Hid (bB wr b9 (o9+j*3) [.bool (ar (dN (F0 j))),.string (bs (nt (dN (F0 j)).natAbs)),.int .i64 (dE (F0 j))]):=rY;have gu:=ah (aK Sc.out aQ.out);have gm:=aQ.out.size;have lb9:b9<wr.heap.size:=by obtain⟨h,_,_⟩:=rY.w3;exact World.block_lt_of_cell? wr _ h
    clear rY hjl VM;obtain⟨wo,hwo⟩:∃wo,wo=wr:=⟨_,rfl⟩;subst hwo;have Hb:Hid (Bw wo wo):=Below.refl _ _;have lH:(j:Int)<(n:Int)+1:=by omega
    obtain⟨q0,q1,q2⟩:=Hq.out.w3;have BX:=Hq;go_wp2_with fail;refine(Hco.out j hlt _).mono ?_;rintro e w4 ⟨a4,c4,rfl,Dz,ae⟩;clear q0 q1 q2;replace Hq:=kW Hq ae;obtain⟨q0,q1,q2⟩:=Hq.out.w3;replace Hb:=az Hb ae;clear ae;have Zu:=Hb.out.size;have HA:Hid (bR w4 a4 c4 (L j 0)):=Dz;obtain⟨W5,xH,ae,Hp⟩:=cS w4 57 [.int .i64 (n:Int),.slice a4 (L j 0).length c4];clear q0 q1 q2;replace Hq:=kW Hq ae;replace HA:=ah (HA.out.below ae);obtain⟨q0,q1,q2⟩:=Hq.out.w3;obtain⟨p0,iG,p1,iH⟩:=Hp.out.g2;replace Hb:=az Hb ae;clear ae;have Hp5:=Hp;have HA5:=HA;have fB:=Hb;clear q0 q1 q2 p0 iG p1 iH Hq Hp HA Hb Dz;go_wp2_with fail;go_loopw[9] (λx wr=>∃(k:Nat) (aP:Option Addr) (cP:Nat),k<=n/\x=.int .i64 (k:Int)/\ak wr w4.heap.size 57 [.int .i64 (n:Int),.slice aP (L j k).length cP]/\bR wr aP cP (L j k)/\Bw wo wr) (λx _=>n-(intOf x).toNat);case atStart=>exact⟨0,a4,c4,Nat.zero_le _,rfl,Hp5.out,HA5.out,fB.out⟩
    case round=>
     obtain⟨k,aP,cP,hk,rfl,hp,hpl,pb⟩:=hrel;have Hp:Hid (ak wr w4.heap.size 57 [.int .i64 (n:Int),.slice aP (L j k).length cP]):=hp;obtain⟨Kw,uF⟩:=aM hpl pb;clear hp hpl pb;by_cases bj:k<n
     . obtain⟨wi,lL⟩:∃wi,wi=wr:=⟨_,rfl⟩;subst lL;have szi:=uF.out.size;have lpi:=Hp.out.lt;have hmk:=mY.out;have aoR:(k:Int)<(n:Int):=by omega
       go_wp2_with fail;obtain⟨R,hR⟩:∃R:World->Prop,(λW3=>ak W3 wi.heap.size 30 (dC (List.replicate n 0))/\Bw wi W3)=R:=⟨_,rfl⟩;first|refine bN R ?hR ?_|refine bL R ?hR ?_
       case hR=>subst hR;exact⟨ak.new wi _ _,zl⟩
       subst hR;rintro W6 ⟨qx,Vj⟩;clear hmk;refine(oV.out W6).mono ?_;rintro e w7 ⟨rfl,Ny⟩;obtain⟨zz,oP⟩:=aM (qx.below Ny) (aK Vj Ny);obtain⟨b',o',e',hw'⟩:=(At.aqS zz.out).dn k (by simp;exact bj) (D:=0) zm;simp only[Option.some.injEq,Addr.mk.injEq,and_true]at e';obtain⟨rfl,rfl⟩:=e';rw[Nat.zero_add]at hw';obtain⟨x0,x1,x2⟩:=hw'.w3;have aX:=zz.out.free (k*3);have aY:=zz.out.free (k*3+1);have bi:=zz.out.free (k*3+2);have DY:=lM n n k (k:Int) (rfl:(some ⟨wi.heap.size,0,none⟩:Option Addr)=_) bj rfl;rw[Nat.zero_add]at DY;clear hw' qx Vj Ny;go_wp2_with fail;obtain⟨R,hR⟩:∃R:World->Prop,(λW8=>ak W8 wi.heap.size 30 (dC ((List.range n).map (fV k)))/\Bw wi W8)=R:=⟨_,rfl⟩;first|refine bN R ?hR ?_|refine bL R ?hR ?_
       case hR=>subst hR;exact⟨by rw[<-Hse.out k bj];exact((zz.out.set _ _).set _ _).set _ _,((oP.out.setCell (Nat.le_refl _) _).setCell (Nat.le_refl _) _).setCell (Nat.le_refl _) _⟩
       subst hR;rintro W8 ⟨q8,fR⟩;obtain⟨Hx,Hb⟩:=aM q8 fR;clear q8 fR x0 x1 x2 aX aY bi DY zz oP;go_wp2_with fail;refine(wY.out k bj _).mono ?_;rintro e w9 ⟨a9,c9,rfl,vC,ae⟩;replace Hx:=kB Hx ae;replace Hb:=az Hb ae;clear ae;have sz9:=Hb.out.size;have Hq9:=ah (BX.out.below (aK uF.out Hb.out));have uy:=Hb;have HV:Hid (bR w9 a9 c9 (Z k)):=vC;have ap7:=Hx.out.lt;obtain⟨uO,ag5,ae,Hy⟩:=cS w9 57 [.int .i64 (n:Int),.slice a9 (Z k).length c9];replace Hx:=kB Hx ae;replace HV:=ah (HV.out.below ae);obtain⟨y0,aR,y1,aS⟩:=Hy.out.g2;replace Hb:=az Hb ae;clear ae;have aa7:Hid (Bw w9 uO):=by rw[<-ag5];exact zl
       have om:=aK uF.out Hb.out;obtain⟨Hq,HG,eH,uJ⟩:=dS (BX.out.below om) (Kw.out.below Hb.out) (Hp.out.below Hb.out) (aK gu.out om);have rI:=Hb;have ly:=Hy.out.lt;clear om vC y0 aR y1 aS Hb Hp;have Hp:=eH;have Hb:Hid (Bw uO uO):=Below.refl _ _;obtain⟨y0,aR,y1,aS⟩:=Hy.out.g2;obtain⟨q0,q1,q2⟩:=Hq.out.w3;obtain⟨p0,p1⟩:=Hp.out.c2;have HV:Hid (bR uO a9 c9 (Z k)):=HV.out;have HG:Hid (bR uO aP cP (L j k)):=HG.out;obtain⟨q0,q1,q2⟩:=Hq9.out.w3;go_upto_region 14 with fail
       go_cut[11] (λs11 wx=>s11=.pointer (some ⟨w9.heap.size,0,none⟩)/\∃ng ni,ak wx w9.heap.size 57 [.int .i64 (n:Int),.slice ng (U j k).length ni]/\ak wx w4.heap.size 57 [.int .i64 (n:Int),.slice aP (L j k).length cP]/\bR wx ng ni (U j k)/\bR wx aP cP (L j k)/\Bw wi wx);case first=>
        have mf:∀w',gN w9 w'->w'.cell? ⟨b9,o9+j*3,none⟩=some (.bool (ar (dN (F0 j))))/\w'.cell? ⟨b9,o9+j*3+1,none⟩=some (.string (bs (nt (dN (F0 j)).natAbs)))/\w'.cell? ⟨b9,o9+j*3+2,none⟩=some (.int .i64 (dE (F0 j))):=λw' h=>⟨cell_later h q0,cell_later h q1,cell_later h q2⟩;have aN:Hid (gN w9 uO):=aa7.out;refine EM (λw'=>gN w9 w') (λi=>Nat.blt i 100000) (.rd 1 (.rd 2 (.rd 4 (.rd 7 (.rd 8 (.rd 9 (.rd 10 (.br 0 3 (.lin [(3,false),(5,true),(6,false),(11,false),(12,false),(13,true),(14,true),(15,true),(16,false)]) (.rd 5 (.br 0 6 (.lin [(6,false),(11,false),(12,false),(13,true),(14,true),(15,true),(16,false)]) (.br 0 11 (.lin [(11,false),(12,false),(13,true),(14,true),(15,true),(16,false)]) (.lin [(0,false),(12,false),(13,true),(14,true),(15,true),(16,false)])))))))))))) zk zk rfl zk zc aN.out.drew ?_;iterate 7 (refine Ep rfl rfl (v:=?_) (λw' hw'=>?_) ?_;rotate_left;(focus have hw':=mf w' hw';obtain⟨q0,q1,q2⟩:=hw';go_simp;try with_reducible rfl);try simp only[UU])
        clear q0 q1 q2 Hq mf;refine uh rfl rfl rfl rfl rfl rfl  (λK hK=>?_) (λK hK=>?_) 
        . go_simp;refine hK _ _ (by first|exact λh=>absurd h zd|exact λ_=>aN.out|exact λ_=>aN.out.drew) ?_;clear hK K;try simp only[UU]
          refine nK ?_;refine aI rfl rfl (λK hK=>?_);go_simp;with_reducible refine(Si.out k bj j hlt _ (by first|exact aK uJ.out Hb.out|exact aK uJ.out Hb.out.drew) _ (by first|exact Hx.out|exact Hx.out.drew)).mono ?_
          rintro e il ⟨b8,o8,c8,rfl,ix8,z0,z1,z2,hq⟩;have ae:Bw uO il:=by first|exact hq|exact aV hq
          clear y0 aR y1 aS p0 p1;replace aN:=ah (aN.out.below ae);replace Hy:=kB Hy ae;replace Hx:=kB Hx ae;replace Hp:=kB Hp ae;replace HV:=ah (HV.out.below ae);replace HG:=ah (HG.out.below ae);obtain⟨y0,aR,y1,aS⟩:=Hy.out.g2;obtain⟨p0,p1⟩:=Hp.out.c2;replace Hb:=az Hb ae;clear ae;refine hK _ _ (λ_=>aN.out) ?_;clear hK K;try simp only[UU]
          refine pT rfl rfl ?_;try simp only[UU]
          refine aI rfl rfl (λK hK=>?_);go_simp;refine hK _ _ (by first|exact λh=>absurd h zd|exact λ_=>aN.out|exact λ_=>aN.out.drew) ?_;clear hK K;try simp only[UU]
          refine aI rfl rfl (λK hK=>?_);go_simp;with_reducible refine(FC.out j k hlt _).mono ?_
          rintro e gW ⟨rfl,hq⟩;have ae:Bw il gW:=by first|exact hq|exact aV hq
          clear y0 aR y1 aS p0 p1;replace aN:=ah (aN.out.below ae);replace Hy:=kB Hy ae;replace Hx:=kB Hx ae;replace Hp:=kB Hp ae;replace HV:=ah (HV.out.below ae);replace HG:=ah (HG.out.below ae);obtain⟨y0,aR,y1,aS⟩:=Hy.out.g2;obtain⟨p0,p1⟩:=Hp.out.c2;replace Hb:=az Hb ae;clear ae;refine hK _ _ (λ_=>aN.out) ?_;clear hK K;try simp only[UU]
          refine aI rfl rfl (λK hK=>?_);go_simp;with_reducible refine(gM.out j k hlt a9 c9 _ HV.out).mono ?_
          rintro e kw ⟨ng,ni,rfl,rh,hq⟩;have ae:Bw gW kw:=by first|exact hq|exact aV hq
          clear y0 aR y1 aS p0 p1;replace aN:=ah (aN.out.below ae);replace Hy:=kB Hy ae;replace Hx:=kB Hx ae;replace Hp:=kB Hp ae;replace HV:=ah (HV.out.below ae);replace HG:=ah (HG.out.below ae);obtain⟨y0,aR,y1,aS⟩:=Hy.out.g2;obtain⟨p0,p1⟩:=Hp.out.c2;replace Hb:=az Hb ae;clear ae;have HX:=ah rh;clear rh;refine hK _ _ (λ_=>aN.out) ?_;clear hK K;try simp only[UU]
          iterate 3 (refine pT rfl rfl ?_;try simp only[UU])
          refine aI rfl rfl (λK hK=>?_);go_simp;refine hK _ _ (by first|exact λh=>absurd h zd|exact λ_=>aN.out|exact λ_=>(by first|exact aN.out.setCell zp _|exact(aN.out.setCell zp _).setCell zp _|exact((aN.out.setCell zp _).setCell zp _).setCell zp _)) ?_;clear hK K;try simp only[UU]
          simp only[aZ];go_wp2_with fail;go_meet;exact⟨rfl,ng,ni,(Hy.out.set 0 _).set 1 _,((Hp.out.so (w9.heap.size) 0 zo _).so (w9.heap.size) 1 zo _),HX.out.store Hy.out zd _ _,HG.out.store Hy.out zd _ _,((aK rI.out Hb.out).setCell zp _).setCell zp _⟩
        . go_simp;with_reducible refine(Si.out k bj j hlt _ (by first|exact aK uJ.out Hb.out|exact aK uJ.out Hb.out.drew) _ (by first|exact Hx.out|exact Hx.out.drew)).mono ?_
          rintro e il ⟨b8,o8,c8,rfl,ix8,z0,z1,z2,hq⟩;have ae:Bw uO il:=by first|exact hq|exact aV hq
          clear y0 aR y1 aS p0 p1;replace aN:=ah (aN.out.below ae);replace Hy:=kB Hy ae;replace Hx:=kB Hx ae;replace Hp:=kB Hp ae;replace HV:=ah (HV.out.below ae);replace HG:=ah (HG.out.below ae);obtain⟨y0,aR,y1,aS⟩:=Hy.out.g2;obtain⟨p0,p1⟩:=Hp.out.c2;replace Hb:=az Hb ae;clear ae;refine hK _ _ (λ_=>aN.out) ?_;clear hK K;try simp only[UU]
          iterate 1 (refine Ep rfl rfl (v:=?_) (λw' hw'=>?_) ?_;rotate_left;(focus go_simp;try with_reducible rfl);try simp only[UU])
          refine uh rfl rfl rfl rfl rfl rfl  (λK hK=>?_) (λK hK=>?_) 
          . go_simp;refine hK _ _ (by first|exact λh=>absurd h zd|exact λ_=>aN.out|exact λ_=>aN.out.drew) ?_;clear hK K;try simp only[UU]
            refine nK ?_;refine aI rfl rfl (λK hK=>?_);go_simp;refine hK _ _ (by first|exact λh=>absurd h zd|exact λ_=>aN.out|exact λ_=>aN.out.drew) ?_;clear hK K;try simp only[UU]
            refine aI rfl rfl (λK hK=>?_);go_simp;with_reducible refine(FC.out j k hlt _).mono ?_
            rintro e gW ⟨rfl,hq⟩;have ae:Bw il gW:=by first|exact hq|exact aV hq
            clear y0 aR y1 aS p0 p1;replace aN:=ah (aN.out.below ae);replace Hy:=kB Hy ae;replace Hx:=kB Hx ae;replace Hp:=kB Hp ae;replace HV:=ah (HV.out.below ae);replace HG:=ah (HG.out.below ae);obtain⟨y0,aR,y1,aS⟩:=Hy.out.g2;obtain⟨p0,p1⟩:=Hp.out.c2;replace Hb:=az Hb ae;clear ae;refine hK _ _ (λ_=>aN.out) ?_;clear hK K;try simp only[UU]
            refine aI rfl rfl (λK hK=>?_);go_simp;with_reducible refine(gM.out j k hlt a9 c9 _ HV.out).mono ?_
            rintro e kw ⟨ng,ni,rfl,rh,hq⟩;have ae:Bw gW kw:=by first|exact hq|exact aV hq
            clear y0 aR y1 aS p0 p1;replace aN:=ah (aN.out.below ae);replace Hy:=kB Hy ae;replace Hx:=kB Hx ae;replace Hp:=kB Hp ae;replace HV:=ah (HV.out.below ae);replace HG:=ah (HG.out.below ae);obtain⟨y0,aR,y1,aS⟩:=Hy.out.g2;obtain⟨p0,p1⟩:=Hp.out.c2;replace Hb:=az Hb ae;clear ae;have HX:=ah rh;clear rh;refine hK _ _ (λ_=>aN.out) ?_;clear hK K;try simp only[UU]
            iterate 3 (refine pT rfl rfl ?_;try simp only[UU])
            refine aI rfl rfl (λK hK=>?_);go_simp;refine hK _ _ (by first|exact λh=>absurd h zd|exact λ_=>aN.out|exact λ_=>(by first|exact aN.out.setCell zp _|exact(aN.out.setCell zp _).setCell zp _|exact((aN.out.setCell zp _).setCell zp _).setCell zp _)) ?_;clear hK K;try simp only[UU]
            simp only[aZ];go_wp2_with fail;go_meet;exact⟨rfl,ng,ni,(Hy.out.set 0 _).set 1 _,((Hp.out.so (w9.heap.size) 0 zo _).so (w9.heap.size) 1 zo _),HX.out.store Hy.out zd _ _,HG.out.store Hy.out zd _ _,((aK rI.out Hb.out).setCell zp _).setCell zp _⟩
          . go_simp;refine hK _ _ (by first|exact λh=>absurd h zd|exact λ_=>aN.out|exact λ_=>aN.out.drew) ?_;clear hK K;try simp only[UU]
            refine uh rfl rfl rfl rfl rfl rfl  (λK hK=>?_) (λK hK=>?_) 
            . go_simp;refine hK _ _ (by first|exact λh=>absurd h zd|exact λ_=>aN.out|exact λ_=>aN.out.drew) ?_;clear hK K;try simp only[UU]
              refine nK ?_;refine aI rfl rfl (λK hK=>?_);go_simp;with_reducible refine(FC.out j k hlt _).mono ?_
              rintro e gW ⟨rfl,hq⟩;have ae:Bw il gW:=by first|exact hq|exact aV hq
              clear y0 aR y1 aS p0 p1;replace aN:=ah (aN.out.below ae);replace Hy:=kB Hy ae;replace Hx:=kB Hx ae;replace Hp:=kB Hp ae;replace HV:=ah (HV.out.below ae);replace HG:=ah (HG.out.below ae);obtain⟨y0,aR,y1,aS⟩:=Hy.out.g2;obtain⟨p0,p1⟩:=Hp.out.c2;replace Hb:=az Hb ae;clear ae;refine hK _ _ (λ_=>aN.out) ?_;clear hK K;try simp only[UU]
              refine aI rfl rfl (λK hK=>?_);go_simp;with_reducible refine(gM.out j k hlt a9 c9 _ HV.out).mono ?_
              rintro e kw ⟨ng,ni,rfl,rh,hq⟩;have ae:Bw gW kw:=by first|exact hq|exact aV hq
              clear y0 aR y1 aS p0 p1;replace aN:=ah (aN.out.below ae);replace Hy:=kB Hy ae;replace Hx:=kB Hx ae;replace Hp:=kB Hp ae;replace HV:=ah (HV.out.below ae);replace HG:=ah (HG.out.below ae);obtain⟨y0,aR,y1,aS⟩:=Hy.out.g2;obtain⟨p0,p1⟩:=Hp.out.c2;replace Hb:=az Hb ae;clear ae;have HX:=ah rh;clear rh;refine hK _ _ (λ_=>aN.out) ?_;clear hK K;try simp only[UU]
              iterate 3 (refine pT rfl rfl ?_;try simp only[UU])
              refine aI rfl rfl (λK hK=>?_);go_simp;refine hK _ _ (by first|exact λh=>absurd h zd|exact λ_=>aN.out|exact λ_=>(by first|exact aN.out.setCell zp _|exact(aN.out.setCell zp _).setCell zp _|exact((aN.out.setCell zp _).setCell zp _).setCell zp _)) ?_;clear hK K;try simp only[UU]
              simp only[aZ];go_wp2_with fail;go_meet;exact⟨rfl,ng,ni,(Hy.out.set 0 _).set 1 _,((Hp.out.so (w9.heap.size) 0 zo _).so (w9.heap.size) 1 zo _),HX.out.store Hy.out zd _ _,HG.out.store Hy.out zd _ _,((aK rI.out Hb.out).setCell zp _).setCell zp _⟩
            . go_simp;with_reducible refine(FC.out j k hlt _).mono ?_
              rintro e gW ⟨rfl,hq⟩;have ae:Bw il gW:=by first|exact hq|exact aV hq
              clear y0 aR y1 aS p0 p1;replace aN:=ah (aN.out.below ae);replace Hy:=kB Hy ae;replace Hx:=kB Hx ae;replace Hp:=kB Hp ae;replace HV:=ah (HV.out.below ae);replace HG:=ah (HG.out.below ae);obtain⟨y0,aR,y1,aS⟩:=Hy.out.g2;obtain⟨p0,p1⟩:=Hp.out.c2;replace Hb:=az Hb ae;clear ae;refine hK _ _ (λ_=>aN.out) ?_;clear hK K;try simp only[UU]
              refine nK ?_;refine aI rfl rfl (λK hK=>?_);go_simp;refine hK _ _ (by first|exact λh=>absurd h zd|exact λ_=>aN.out|exact λ_=>aN.out.drew) ?_;clear hK K;try simp only[UU]
              refine aI rfl rfl (λK hK=>?_);go_simp;with_reducible refine(gM.out j k hlt a9 c9 _ HV.out).mono ?_
              rintro e kw ⟨ng,ni,rfl,rh,hq⟩;have ae:Bw gW kw:=by first|exact hq|exact aV hq
              clear y0 aR y1 aS p0 p1;replace aN:=ah (aN.out.below ae);replace Hy:=kB Hy ae;replace Hx:=kB Hx ae;replace Hp:=kB Hp ae;replace HV:=ah (HV.out.below ae);replace HG:=ah (HG.out.below ae);obtain⟨y0,aR,y1,aS⟩:=Hy.out.g2;obtain⟨p0,p1⟩:=Hp.out.c2;replace Hb:=az Hb ae;clear ae;have HX:=ah rh;clear rh;refine hK _ _ (λ_=>aN.out) ?_;clear hK K;try simp only[UU]
              iterate 3 (refine pT rfl rfl ?_;try simp only[UU])
              refine aI rfl rfl (λK hK=>?_);go_simp;refine hK _ _ (by first|exact λh=>absurd h zd|exact λ_=>aN.out|exact λ_=>(by first|exact aN.out.setCell zp _|exact(aN.out.setCell zp _).setCell zp _|exact((aN.out.setCell zp _).setCell zp _).setCell zp _)) ?_;clear hK K;try simp only[UU]
              simp only[aZ];go_wp2_with fail;go_meet;exact⟨rfl,ng,ni,(Hy.out.set 0 _).set 1 _,((Hp.out.so (w9.heap.size) 0 zo _).so (w9.heap.size) 1 zo _),HX.out.store Hy.out zd _ _,HG.out.store Hy.out zd _ _,((aK rI.out Hb.out).setCell zp _).setCell zp _⟩
       case rest=>
        obtain⟨rfl,ng,ni,qy,qp,qu,qg,qb⟩:=hcut;clear y0 aR y1 aS q0 q1 q2 p0 p1 Hy Hp HG HV Hb Hq Hx;obtain⟨Hy,Hp,HX,HG,Hb⟩:=fC qy qp qu qg qb;clear qy qp qu qg qb;obtain⟨y0,y1⟩:=Hy.out.c2;obtain⟨p0,iG,p1,iH⟩:=Hp.out.g2;have HX:Hid (bR wc ng ni (U j k)):=HX.out;have HG:Hid (bR wc aP cP (L j k)):=HG.out;have P0:=p0;have P1:=p1;have Y0:=y0;have Y1:=y1;have aqa:=Hy.out.lt;have apL:=Hp.out.lt;obtain⟨W15,aoy,ae,Hm⟩:=cS wc 57 [.int .i64 (n:Int),.slice aP (L j k).length cP,.int .i64 (n:Int),.slice ng (U j k).length ni];clear y0 y1;replace Hy:=kB Hy ae;clear p0 iG p1 iH;replace Hp:=kB Hp ae;replace HX:=ah (HX.out.below ae);replace HG:=ah (HG.out.below ae);obtain⟨y0,y1⟩:=Hy.out.c2;obtain⟨p0,iG,p1,iH⟩:=Hp.out.g2;obtain⟨m0,m1,m2,m3⟩:=Hm.out.c4;replace Hb:=az Hb ae;clear ae;go_wp2_with fail;refine(sL.out j k hlt bj _ _ aP cP ng ni Hm.out HG.out HX.out).mono ?_;rintro e w16 ⟨a16,c16,rfl,ahN,ae⟩;clear y0 y1 p0 iG p1 iH m0 m1 m2 m3;replace Hy:=kB Hy ae;replace Hp:=kB Hp ae;replace HX:=ah (HX.out.below ae);replace HG:=ah (HG.out.below ae);replace Hm:=kB Hm ae;obtain⟨y0,y1⟩:=Hy.out.c2;obtain⟨p0,iG,p1,iH⟩:=Hp.out.g2;obtain⟨m0,m1,m2,m3⟩:=Hm.out.c4;replace Hb:=az Hb ae;clear ae;have ahc:=aK uF.out Hb.out;have apf:=Hp.out.lt;clear P0 P1 Y0 Y1;go_wp2;go_roundw;case rel=>exact⟨k+1,a16,c16,by omega,by go_num,(Hp.out.set 0 _).set 1 _,ahN.store Hp.out zd _ _,(ahc.setCell zp _).setCell zp _⟩
        case measure=>simp[intOf];omega
     . obtain rfl:n=k:=by omega
       have hp2:ak wr w4.heap.size 57 [.int .i64 (n:Int),.slice aP (T j).length cP]:=by rw[<-uD.out j hlt];exact Hp.out
       have hl2:bR wr aP cP (T j):=by rw[<-uD.out j hlt];exact Kw.out
       obtain⟨eH,eK⟩:=aM hp2 hl2;clear hp2 hl2 Hp Kw;have Hp:=eH;have szi:=uF.out.size;have Hb:Hid (Bw wr wr):=Below.refl _ _;obtain⟨p0,p1⟩:=Hp.out.c2;have P0:=p0;have P1:=p1;have apO:=Hp.out.lt;obtain⟨W6,od,ae,Hc⟩:=cS wr 57 [.int .i64 (n:Int),.slice aP (T j).length cP];clear p0 p1;replace Hp:=kB Hp ae;obtain⟨p0,p1⟩:=Hp.out.c2;obtain⟨c0,c1⟩:=Hc.out.c2;replace Hb:=az Hb ae;clear ae;have cG:=ownsRow_below Ho.out (aK uF.out Hb.out);have iz:=Hb.out.size;go_wp2_with (at_builtin;refine wpList_append_own_at _ rfl _ _ 50 rfl w3.heap.size 57 j0 _ 2 32 Tryz.underlying50 Hj.out ir.out jd.out je.out rfl zd v j (ps.flatMap iR) rfl cG ⟨wr.heap.size,0,none⟩ 1 1 [.int .i64 (n:Int),.slice aP (T j).length cP] rfl rfl (fX Hc.out) zy zx zo zo ?_;intro v' fI tM rT _ fq;obtain⟨g',lC,rfl⟩:=ownsRow_succ tM);have Aj:∀g,v.ownBlock=some g->∃cur t,W6.heap[g]?=some (.cells cur t)/\t≠107:=λg e=>by obtain⟨cur,t,h1,h2⟩:=Yt cG g e;exact⟨cur,t,h1,by rw[h2];decide⟩
       have Dp:=(eK.out.below Hb.out).grown rT Aj;have Il:=(wT.out.below (aK uF.out Hb.out)).grown rT Aj;have rW:=Yy Il (show T ps.length=T j by rw[ll.out]) Dp (wD.out j hlt);have e10:ps.flatMap iR++[.int .i64 (n:Int),.slice aP (T j).length cP]=(ps++[(⟨(n:Int),aP,(T j).length,cP⟩:Pv)]).flatMap iR:=by rw[List.flatMap_append];rfl
       rw[e10]at tM;have qX:=(aK aQ.out (aK uF.out Hb.out)).grown rT zo (λj e=>cZ cG j e);go_roundw;case rel=>exact⟨j+1,_,_,by omega,by go_num,rfl,by rw[List.length_append,ll.out];rfl,tM,rW,qX⟩
       case measure=>simp[intOf];omega
  . obtain rfl:j=n+1:=by omega
    obtain⟨a2,cap2,rfl,iK,_⟩:=dG Ho.out;have tG:=AK Ho.out;obtain⟨nP,BD,JI⟩:=cX iK tG (aK Sc.out aQ.out);clear iK tG Ho aQ;go_wp2;refine bodyPost_ret (results_tmp rfl _ _ _) rfl ⟨a2,cap2,ps,rfl,BD.out,ll.out,nP.out,wT.out,JI.out⟩
end Go.Proofs.YtdaadlblknpipaaGreatDoor
