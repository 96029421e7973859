/- A row of zeros made;one of them put to 1. -/
import Derived.Test.YtoopepmmepmfnaaGreatDoorZ30
import Derived.Test.YtoopepmmepmfnaaGreatDoorZ29
set_option linter.unusedVariables false
set_option linter.unusedSimpArgs false
set_option maxRecDepth 100000
set_option maxHeartbeats 16000000
namespace Go.Proofs.YtoopepmmepmfnaaGreatDoor
open Go.RowKit
theorem anS (c:Int)(n:Nat)(hc:c=n)(h:n<=1048576)(w:World):
 (Instr.makeSlice 50 (af c) (af c)).run Tryz.prog w=.ok (.slice (some ⟨w.heap.size,0,none⟩) n n) (w.alloc (.cells (dC (List.replicate n 0)).toArray 39)):=by
 subst hc;obtain⟨i0,hi,hz0,hz1,hz2⟩:=info_parts Tryz.aw4;rw[run_make (P:=Tryz.prog) w 50 39 i0 _ Tryz.underlying50 hi hz0 .i64 .i64 n n zo zo (by rw[hz2];omega) zo];simp only[Int.toNat_natCast,hz1];rw[anG]
theorem aqk (n k:Nat)(hn:n<=4)(hk:k<n):(((dC (List.replicate n 0)).set (k*3) (ag (au (dN (1:Dyadic))))).set (k*3+1) (ah (nt (dN (1:Dyadic)).natAbs))).set (k*3+2) (af (dE (1:Dyadic)))=dC ((List.range n).map (gN k)):=by
 have h0:∀b,¬b=k->gN k b=0:=λb h=>by unfold gN;rw[if_neg h]
 have h1:gN k k=1:=by unfold gN;rw[if_pos rfl]
 have hc:n=0\/n=1\/n=2\/n=3\/n=4:=by omega
 have hd:k=0\/k=1\/k=2\/k=3:=by omega
 rcases hc with rfl|rfl|rfl|rfl|rfl<;>rcases hd with rfl|rfl|rfl|rfl<;>first| (exfalso;omega) | (simp[List.range,List.range.loop,gN,dC,List.replicate,List.flatMap];rfl)
theorem ar7 (n:Nat):jx ((List.replicate n (0:Dyadic)).map canon)=λ_=>0:=by
 funext b
 unfold jx;rw[List.map_map,show(az∘canon)=id from funext bD,List.map_id];simp[List.getD_eq_getElem?_getD,List.getElem?_replicate];split<;>rfl
theorem ar8 (n k:Nat)(hk:k<n):jx (((List.range n).map (gN k)).map canon)=gN k:=by
 funext b
 unfold jx;rw[List.map_map,show(az∘canon)=id from funext bD,List.map_id];by_cases h:b<n
 . simp[List.getD_eq_getElem?_getD,h]
 . have:gN k b=0:=by unfold gN;rw[if_neg zo]
   simp[List.getD_eq_getElem?_getD,h,this]
theorem adr (k b:Nat):Sm 1 (gN k b):=by
 unfold gN;split
 . exact Sm.one
 . exact Sm.zero _
theorem At.dn {w:World}{a:Option Addr}{ds:List Dyadic}(h:At w a (dC ds))(j:Nat)(hj:j<ds.length){D:Dyadic}(hD:ds[j]=D):∃b o,a=some ⟨b,o,none⟩/\bH w b (o+j*3) [ag (au (dN D)),ah (nt (dN D).natAbs),af (dE D)]:=by rw[vC]at h;obtain⟨b,o,h1,h2,h3,h4⟩:=h.num j (by rw[List.length_map];exact hj) (show(ds.map canon)[j]'(by rw[List.length_map];exact hj)=(au (dN D),nt (dN D).natAbs,dE D)by rw[List.getElem_map,hD];rfl);exact⟨b,o,h1,kv h2 h3 h4⟩
theorem WQ {B:Nat}{ds:List Dyadic}(h:∀d∈ds,Sm B d)(hB:B<=16384):∀x∈ds.map canon,ey B x:=λx hx=>by obtain⟨d,hd,rfl⟩:=List.mem_map.1 hx;exact ey.canon (h d hd) hB
end Go.Proofs.YtoopepmmepmfnaaGreatDoor
namespace Go.Proofs.YtoopepmmepmfnaaGreatDoor
open Go.RowKit
attribute [local go_sem ↓] Go.wp_at_zero Go.wp_at_succ
theorem arq {w:World}{b V:Nat}{aP aU:Option Addr}{cP cU:Nat}{L U:List aM}(h:ar w b 91 [af (V:Int),.slice aP L.length cP,af (V:Int),.slice aU U.length cU])(hP:cz w aP cP L)(hU:cz w aU cU U):
 Ci w b V (λi=>if i=0 then aP else aU) (λi=>if i=0 then cP else cU) (λi=>if i=0 then L else U):=λi hi=>by
 have hc:i=0\/i=1:=by omega
 rcases hc with rfl|rfl
 . exact⟨h.cell 0,h.cell 1,hP⟩
 . exact⟨h.cell 2,h.cell 3,hU⟩
theorem adj {p:Nat->Prop}(h0:p 0)(h1:p 1):∀i,i<2->p i:=λi hi=>by
 have hc:i=0\/i=1:=by omega
 rcases hc with rfl|rfl
 . exact h0
 . exact h1
theorem apE (a:Option Addr)(cap n B:Nat)(rows:List (List Raw))(w:World)(hL:rows.length=n+1)(hn:1<=n)(bO:n<=4)(hrow:∀r∈rows,r.length=n)(hfit:∀r∈rows,∀c∈r,ey B c)(cm:1<=B)(hB:B<=500)(ha:cC w a rows)(h0:dw n (bT rows)≠0):
 Calls Tryz.prog 62 #[.slice a (n+1) cap] w λe w'=>∃a' c' ps,e=.returned (.slice a' (n+1) c')/\n+1<=c'/\ps.length=n+1/\At w' a' (ps.flatMap jv)/\iK w' n (5*B+50) ps (fy n (bT rows) n)/\Bw w w':=by
 obtain⟨j0,hj,hy0,hy1,hy2⟩:=info_parts Tryz.axf;have hv:=λW (hW:Bw w W)=>acA a (n+1) cap rows (n:Int) W hL zo (ha.below hW) (DC hL hrow hn zo);have hps:∀i k,i<=n->k<n->Sm B (bT rows i k):=λi k h1 h2=>by
  have hi1:i<rows.length:=by omega
  have hk1:k<rows[i].length:=by rw[hrow _ (List.getElem_mem hi1)];exact h2
  have ee:bT rows i k=az rows[i][k]:=by unfold bT bU;simp[List.getD_eq_getElem?_getD,hi1,hk1]
  rw[ee];exact(hfit _ (List.getElem_mem hi1) _ (List.getElem_mem hk1)).2
 have hwz:=λW (hW:Bw w W) b (hb:ar W b 39 (dC (List.replicate n 0)))=>acB a cap n B rows (some ⟨b,0,none⟩) n ((List.replicate n (0:Dyadic)).map canon) W hL hn bO hrow hfit zm (WQ (λd hd=>by rw[List.eq_of_mem_replicate hd];exact Sm.zero _) zo) zo (ha.below hW) (by rw[<-vC];exact At.aw2 hb) h0;have hwu:=λk (hk:k<n) W (hW:Bw w W) b (hb:ar W b 39 (dC ((List.range n).map (gN k))))=>acB a cap n B rows (some ⟨b,0,none⟩) n (((List.range n).map (gN k)).map canon) W hL hn bO hrow hfit zm (WQ (λd hd=>by obtain⟨i,_,rfl⟩:=List.mem_map.1 hd;exact(adr k i).mono cm) zo) zo (ha.below hW) (by rw[<-vC];exact At.aw2 hb) h0;simp only[ar7]at hwz;have LB:∀k,k<n->∀j,j<n+1->∀W,Bw w W->∀b,ar W b 39 (dC ((List.range n).map (gN k)))->Calls Tryz.prog 105 #[.slice a (n+1) cap,.slice (some ⟨b,0,none⟩) n n] W λe w'=>∃b8 o8 c8,e=.returned (.slice (some ⟨b8,o8,none⟩) (n+1) c8)/\(∀W,Sem.run Tryz.prog (Instr.indexAt 49 (.slice (some ⟨b8,o8,none⟩) (n+1) c8) (af (j:Int))) W=Result.ok (.pointer (some ⟨b8,o8+j*3,none⟩)) W)/\
  w'.cell? ⟨b8,o8+j*3,none⟩=some (ag (au (dN (jb n (bT rows) (gN k) j))))/\w'.cell? ⟨b8,o8+j*3+1,none⟩=some (ah (nt (dN (jb n (bT rows) (gN k) j)).natAbs))/\aC w' b8 (o8+j*3+2) (af (dE (jb n (bT rows) (gN k) j)))/\Bw W w':=by
  intro k hk j hj W hW b hb;refine(hwu k hk W hW b hb).mono ?_;rintro e w' ⟨a',c',rfl,hc,hat,hbl⟩;rw[ar8 n k hk]at hat;obtain⟨b8,o8,rfl,hw⟩:=hat.dn j (by simp[oD];omega) (D:=jb n (bT rows) (gN k) j) (by simp[oD]);obtain⟨q0,q1,q2⟩:=hw.w3;exact⟨b8,o8,c',rfl,qH (n+1) c' j (j:Int) rfl hj rfl,q0,q1,q2,hbl⟩
 have pS:∀X:Nat->Dyadic,(∀b,b<n->Sm B (X b))->∀j,j<n+1->Sm (5*B+20) (jb n (bT rows) X j):=λX hX j hj=>ar4 hn bO hps hX _ (by unfold oD;exact List.mem_map.2 ⟨j,List.mem_range.2 hj,rfl⟩);have sX:=pS (λ_=>0) (λb _=>Sm.zero _);have xm:=λk=>pS (gN k) (λb _=>(adr k b).mono cm);have kI:=λj (hj:j<n+1)=>akx n hn bO (bT rows) j zo;have xC:=λj=>akv (B:=B) hn bO hps zo n (Nat.le_refl _) j;obtain⟨P,hP⟩:=aG (bT rows);simp only[hP]at hwz LB sX xm kI xC;rw[hP];obtain⟨F0,Ky⟩:∃F0:Nat->Dyadic,jb n P (λ_=>0)=F0:=⟨_,rfl⟩;obtain⟨F1,XJ⟩:∃F1:Nat->Nat->Dyadic,(λk=>jb n P (gN k))=F1:=⟨_,rfl⟩;have PI:∀k j,jb n P (gN k) j=F1 k j:=λk j=>by rw[<-XJ]
 obtain⟨D,hD⟩:∃D:Nat->Nat->Dyadic,(λj k=>F1 k j-F0 j)=D:=⟨_,rfl⟩;have uw:∀j k,F1 k j-F0 j=D j k:=λj k=>by rw[<-hD]
 have KU:∀j,j<n+1->dO n (F0 j) (D j) n=fy n P n j:=λj hj=>by have h:=kI j hj;simp only[Ky,PI,uw]at h;exact h
 simp only[PI,Ky]at LB sX xm;have eV:∀j k,j<n+1->Sm (5*B+21) (D j k):=λj k hj=>by rw[<-uw];exact Sm.sub (xm k j hj) (sX j hj)
 obtain⟨Wz,Qk⟩:=aG (oD n P λ_=>0);rw[Qk]at hwz;have jQ:∀j,j<n+1->∃h:j<Wz.length,Wz[j]=F0 j:=by rw[<-Qk];exact λj hj=>⟨by simp[oD];omega,by simp[oD,Ky]⟩
 have Qz:=λj (hj:j<n+1) W=>apx n (5*B+20) (au (dN (F0 j))) (nt (dN (F0 j)).natAbs) (dE (F0 j)) (F0 j) (D j) W zo (ey.canon (sX j hj) zo) zo (bD _);have hsu:=λj k (hj:j<n+1) W=>Ix (au (dN (F1 k j))) (nt (dN (F1 k j)).natAbs) (dE (F1 k j)) (au (dN (F0 j))) (nt (dN (F0 j)).natAbs) (dE (F0 j)) (D j k) (by show az (canon (F1 k j))-az (canon (F0 j))=D j k;rw[bD,bD,uw]) W ((xm k j hj).aw1 zo) ((sX j hj).aw1 zo) (Sm.aw1 (Sm.neg (by show Sm (5*B+20) (az (canon (F0 j)));rw[bD];exact sX j hj)) zo);have Ry:=λk (hk:k<n) W=>ap6 n k W zo hk;have hsc:=λj k (hj:j<n+1) aU cU W (hp:cz W aU cU (bY [(dt n k,canon 1)]))=>apV n aU cU (bY [(dt n k,canon 1)]) (au (dN (D j k))) (nt (dN (D j k)).natAbs) (dE (D j k)) (D j k) (5*B+21) W ((Mr (V:=n) (k:=k) zo Sm.one zd).mono zo) hp ((eV j k hj).aw1 zo) (by show Sm _ (az (canon (D j k)));rw[bD];exact eV j k hj) zo (bD _);simp only[acG]at hsc;have Yt:∀j k,j<n+1->iH n (5*B+50) (bY [(dt n k,canon (D j k))]):=λj k hj=>(Mr (V:=n) (k:=k) zo (eV j k hj) zo).mono zo;have XR:∀j k,j<n+1->k<=n->iH n (5*B+50) (dO n (F0 j) (D j) k):=λj k hj hk=>(LI (B:=5*B+21) zo hk ((sX j hj).mono zo) (λi _=>eV j i hj) zo).mono zo;have zP:∀j k,k<=n->(dO n (F0 j) (D j) k).length<=100:=λj k hk=>by have:=RQ n (F0 j) (D j) k;omega
 have Yv:∀j k,(bY [(dt n k,canon (D j k))]).length<=100:=λj k=>by have:=zw [(dt n k,canon (D j k))];simp at this;omega
 have had:=λj k (hj:j<n+1) (hk:k<n) b W aP cP aU cU (hb:ar W b 91 [af (n:Int),.slice aP (dO n (F0 j) (D j) k).length cP,af (n:Int),.slice aU (bY [(dt n k,canon (D j k))]).length cU]) (hP:cz W aP cP (dO n (F0 j) (D j) k)) (hU:cz W aU cU (bY [(dt n k,canon (D j k))]))=>apu n (5*B+50) b _ _ _ (dO n (F0 j) (D j) (k+1)) W (arq hb hP hU) (adj (XR j k hj zo) (Yt j k hj)) zo (adj (zP j k zo) (Yv j k)) (aa9 n (F0 j) (D j) k)
 have hLn:∀j,j<n+1->iH n (5*B+50) (fy n P n j):=λj hj=>(xC j).mono zo;obtain⟨L,PN⟩:∃L:Nat->Nat->List aM,(λj k=>dO n (F0 j) (D j) k)=L:=⟨_,rfl⟩;have XS:∀j k,dO n (F0 j) (D j) k=L j k:=λj k=>by rw[<-PN]
 obtain⟨U,FK⟩:∃U:Nat->Nat->List aM,(λj k=>bY [(dt n k,canon (D j k))])=U:=⟨_,rfl⟩;have Yu:∀j k,bY [(dt n k,canon (D j k))]=U j k:=λj k=>by rw[<-FK]
 obtain⟨Z,hZ⟩:∃Z:Nat->List aM,(λk=>bY [(dt n k,canon 1)])=Z:=⟨_,rfl⟩;have YB:∀k,bY [(dt n k,canon 1)]=Z k:=λk=>by rw[<-hZ]
 simp only[XS,Yu,YB]at KU Qz hsc had Ry;obtain⟨T,hT⟩:=aG (fy n P n);simp only[hT]at KU hLn;rw[hT];obtain⟨O,hO⟩:∃O:Dyadic,(1:Dyadic)=O:=⟨_,rfl⟩;have hof:∀W,Calls Tryz.prog 52 #[af 1] W λe w'=>e=.returned (bL O)/\Bw W w':=λW=>Mf 1 O hO W zd;have CP:=λk (hk:k<n)=>aqk n k bO hk;simp only[hO]at CP;have hmk:=λW=>anS (n:Int) n rfl zo W;obtain⟨Hj,jA,kz,kC,Hv,Hwz,VC,kw,Hco,BV,Hva,jz⟩:=gB hj hy0 hy1 hy2 hv hwz LB jQ Qz hsu Ry hsc;obtain⟨uZ,wQ,yA,rA,Hse,lJ⟩:=gW had KU hLn hof CP hmk;clear hj hy0 hy1 hy2 hv hwz hwu LB jQ Qz hsu Ry hsc had KU hLn hof CP hmk Yt XR zP Yv eV sX xm pS kI xC PN XS FK Yu hZ YB hT hO Qk hD uw Ky XJ PI hps hP h0 ha hL hrow hfit;have Hb:Hid (Bw w w):=Below.refl _ _;go_enter Tryz.func62,Tryz.ntmps62;go_wp2_with fail;refine(Hv.out _ Hb.out).mono ?_;rintro e w1 ⟨rfl,ae⟩;replace Hb:=aB Hb ae;clear ae;have hmk:=lJ.out;go_wp2_with fail;obtain⟨R,hR⟩:∃R:World->Prop,(λW3=>ar W3 w1.heap.size 39 (dC (List.replicate n 0))/\Bw w1 W3)=R:=⟨_,rfl⟩;first|refine cf R ?hR ?_|refine bZ R ?hR ?_
 case hR=>subst hR;exact⟨ar.new w1 _ _,zl⟩
 subst hR;rintro W2 ⟨qm,ae⟩;replace Hb:=ai (aJ Hb.out ae);clear ae hmk;refine(Hwz.out W2 Hb.out _ qm).mono ?_;rintro e w3 ⟨a3,c3,rfl,hc3,YE,hq⟩;replace Hb:=ai (aJ Hb.out hq);have aeW:=ai YE;clear qm hq YE;go_wp2_with fail;go_loopw[5,6] (λs5 x wr=>∃(j:Nat) (v:Value) (ps:List Pv),j<=n+1/\x=af (j:Int)/\v=s5/\ps.length=j/\wr.ownsRow w3.heap.size 91 2 v j (ps.flatMap jv)/\iK wr n (5*B+50) ps T/\Bw w3 wr) (λ_ x _=>n+1-(intOf x).toNat);case atStart=>exact⟨0,_,[],Nat.zero_le _,rfl,rfl,rfl,World.ownsRow_nil _ _ _ _,λk hk=>absurd hk (Nat.not_lt_zero _),Below.refl _ _⟩
 case round=>
  obtain⟨j,v,ps,hj,rfl,rfl,hpl,ho,hpo,pb⟩:=hrel;have VA:=Hb;clear Hb;obtain⟨Ho,yU,bu,jY⟩:=dx ho hpo pb hpl;clear ho hpo pb hpl;by_cases hlt:j<n+1
  . obtain⟨hjl,Zx⟩:=kw.out j hlt;obtain⟨b9,o9,rfl,Au⟩:=(aeW.out.below bu.out).dn j hjl Zx;have ix9:=qH (n+1) c3 j (j:Int) (rfl:(some ⟨b9,o9,none⟩:Option Addr)=_) hlt rfl;have Hq:Hid (bH wr b9 (o9+j*3) [ag (au (dN (F0 j))),ah (nt (dN (F0 j)).natAbs),af (dE (F0 j))]):=Au;have gQ:=ai (aJ VA.out bu.out);have iy:=bu.out.size;have lb9:b9<wr.heap.size:=by obtain⟨h,_,_⟩:=Au.w3;exact World.block_lt_of_cell? wr _ h
    clear Au hjl Zx;obtain⟨wo,hwo⟩:∃wo,wo=wr:=⟨_,rfl⟩;subst hwo;have Hb:Hid (Bw wo wo):=Below.refl _ _;have nU:(j:Int)<(n:Int)+1:=by omega
    obtain⟨q0,q1,q2⟩:=Hq.out.w3;have EE:=Hq;go_wp2_with fail;refine(Hco.out j hlt _).mono ?_;rintro e w4 ⟨a4,c4,rfl,Gt,ae⟩;clear q0 q1 q2;replace Hq:=kW Hq ae;obtain⟨q0,q1,q2⟩:=Hq.out.w3;replace Hb:=aB Hb ae;clear ae;have Tq:=Hb.out.size;have HA:Hid (cz w4 a4 c4 (L j 0)):=Gt;obtain⟨W5,xt,ae,Hp⟩:=cd w4 91 [af (n:Int),.slice a4 (L j 0).length c4];clear q0 q1 q2;replace Hq:=kW Hq ae;replace HA:=ai (HA.out.below ae);obtain⟨q0,q1,q2⟩:=Hq.out.w3;obtain⟨p0,jf,p1,jg⟩:=Hp.out.g2;replace Hb:=aB Hb ae;clear ae;have Hp5:=Hp;have HA5:=HA;have gD:=Hb;clear q0 q1 q2 p0 jf p1 jg Hq Hp HA Hb Gt;go_wp2_with fail;go_loopw[9] (λx wr=>∃(k:Nat) (aP:Option Addr) (cP:Nat),k<=n/\x=af (k:Int)/\ar wr w4.heap.size 91 [af (n:Int),.slice aP (L j k).length cP]/\cz wr aP cP (L j k)/\Bw wo wr) (λx _=>n-(intOf x).toNat);case atStart=>exact⟨0,a4,c4,Nat.zero_le _,rfl,Hp5.out,HA5.out,gD.out⟩
    case round=>
     obtain⟨k,aP,cP,hk,rfl,hp,hpl,pb⟩:=hrel;have Hp:Hid (ar wr w4.heap.size 91 [af (n:Int),.slice aP (L j k).length cP]):=hp;obtain⟨NJ,wR⟩:=aO hpl pb;clear hp hpl pb;by_cases bG:k<n
     . obtain⟨wi,nX⟩:∃wi,wi=wr:=⟨_,rfl⟩;subst nX;have szi:=wR.out.size;have lpi:=Hp.out.lt;have hmk:=lJ.out;have aua:(k:Int)<(n:Int):=by omega
       go_wp2_with fail;obtain⟨R,hR⟩:∃R:World->Prop,(λW3=>ar W3 wi.heap.size 39 (dC (List.replicate n 0))/\Bw wi W3)=R:=⟨_,rfl⟩;first|refine cf R ?hR ?_|refine bZ R ?hR ?_
       case hR=>subst hR;exact⟨ar.new wi _ _,zl⟩
       subst hR;rintro W6 ⟨qx,YQ⟩;clear hmk;refine(rA.out W6).mono ?_;rintro e w7 ⟨rfl,Rk⟩;obtain⟨BZ,BB⟩:=aO (qx.below Rk) (aJ YQ Rk);obtain⟨b',o',e',hw'⟩:=(At.aw2 BZ.out).dn k (by simp;exact bG) (D:=0) zm;simp only[Option.some.injEq,Addr.mk.injEq,and_true]at e';obtain⟨rfl,rfl⟩:=e';rw[Nat.zero_add]at hw';obtain⟨x0,x1,x2⟩:=hw'.w3;have aY:=BZ.out.free (k*3);have aZ:=BZ.out.free (k*3+1);have bj:=BZ.out.free (k*3+2);have GU:=tL n n k (k:Int) (rfl:(some ⟨wi.heap.size,0,none⟩:Option Addr)=_) bG rfl;rw[Nat.zero_add]at GU;clear hw' qx YQ Rk;go_wp2_with fail;obtain⟨R,hR⟩:∃R:World->Prop,(λW8=>ar W8 wi.heap.size 39 (dC ((List.range n).map (gN k)))/\Bw wi W8)=R:=⟨_,rfl⟩;first|refine cf R ?hR ?_|refine bZ R ?hR ?_
       case hR=>subst hR;exact⟨by rw[<-Hse.out k bG];exact((BZ.out.set _ _).set _ _).set _ _,((BB.out.setCell (Nat.le_refl _) _).setCell (Nat.le_refl _) _).setCell (Nat.le_refl _) _⟩
       subst hR;rintro W8 ⟨q8,iA⟩;obtain⟨Hx,Hb⟩:=aO q8 iA;clear q8 iA x0 x1 x2 aY aZ bj GU BZ BB;go_wp2_with fail;refine(Hva.out k bG _).mono ?_;rintro e w9 ⟨a9,c9,rfl,Gu,ae⟩;replace Hx:=kB Hx ae;replace Hb:=aB Hb ae;clear ae;have sz9:=Hb.out.size;have Hq9:=ai (EE.out.below (aJ wR.out Hb.out));have Ut:=Hb;have HV:Hid (cz w9 a9 c9 (Z k)):=Gu;have av0:=Hx.out.lt;obtain⟨vw,ale,ae,Hy⟩:=cd w9 91 [af (n:Int),.slice a9 (Z k).length c9];replace Hx:=kB Hx ae;replace HV:=ai (HV.out.below ae);obtain⟨y0,aS,y1,aV⟩:=Hy.out.g2;replace Hb:=aB Hb ae;clear ae;have ae0:Hid (Bw w9 vw):=by rw[<-ale];exact zl
       have pY:=aJ wR.out Hb.out;obtain⟨Hq,HG,rB,vt⟩:=dx (EE.out.below pY) (NJ.out.below Hb.out) (Hp.out.below Hb.out) (aJ gQ.out pY);have ue:=Hb;have ly:=Hy.out.lt;clear pY Gu y0 aS y1 aV Hb Hp;have Hp:=rB;have Hb:Hid (Bw vw vw):=Below.refl _ _;obtain⟨y0,aS,y1,aV⟩:=Hy.out.g2;obtain⟨q0,q1,q2⟩:=Hq.out.w3;obtain⟨p0,p1⟩:=Hp.out.c2;have HV:Hid (cz vw a9 c9 (Z k)):=HV.out;have HG:Hid (cz vw aP cP (L j k)):=HG.out;obtain⟨q0,q1,q2⟩:=Hq9.out.w3;go_upto_region 14 with fail
       go_cut[11] (λs11 wx=>s11=.pointer (some ⟨w9.heap.size,0,none⟩)/\∃oO oU,ar wx w9.heap.size 91 [af (n:Int),.slice oO (U j k).length oU]/\ar wx w4.heap.size 91 [af (n:Int),.slice aP (L j k).length cP]/\cz wx oO oU (U j k)/\cz wx aP cP (L j k)/\Bw wi wx);case first=>
        have iT:∀w',fL w9 w'->aC w' b9 (o9+j*3) (ag (au (dN (F0 j))))/\w'.cell? ⟨b9,o9+j*3+1,none⟩=some (ah (nt (dN (F0 j)).natAbs))/\aC w' b9 (o9+j*3+2) (af (dE (F0 j))):=λw' h=>⟨cell_later h q0,cell_later h q1,cell_later h q2⟩;have bz:Hid (fL w9 vw):=ae0.out;refine TF (λw'=>fL w9 w') (λi=>Nat.blt i 100000) (.rd 1 (.rd 2 (.rd 4 (.rd 7 (.rd 8 (.rd 9 (.rd 10 (.br 0 3 (.lin [(3,false),(5,true),(6,false),(11,false),(12,false),(13,true),(14,true),(15,true),(16,false)]) (.rd 5 (.br 0 6 (.lin [(6,false),(11,false),(12,false),(13,true),(14,true),(15,true),(16,false)]) (.br 0 11 (.lin [(11,false),(12,false),(13,true),(14,true),(15,true),(16,false)]) (.lin [(0,false),(12,false),(13,true),(14,true),(15,true),(16,false)])))))))))))) zk zk rfl zk zc bz.out.drew ?_;iterate 7 (refine Md rfl rfl (v:=?_) (λw' hw'=>?_) ?_;rotate_left;(focus have hw':=iT w' hw';obtain⟨q0,q1,q2⟩:=hw';go_simp;try with_reducible rfl))
        clear q0 q1 q2 Hq iT;refine Dp rfl rfl rfl rfl rfl rfl  (λK hK=>?_) (λK hK=>?_) 
        . go_simp;refine hK _ _ (by first|exact λh=>absurd h zd|exact λ_=>bz.out|exact λ_=>bz.out.drew) ?_;clear hK K
          refine wn ?_;refine aI rfl rfl (λK hK=>?_);go_simp;with_reducible refine(VC.out k bG j hlt _ (by first|exact aJ vt.out Hb.out|exact aJ vt.out Hb.out.drew) _ (by first|exact Hx.out|exact Hx.out.drew)).mono ?_
          rintro e dX ⟨b8,o8,c8,rfl,ix8,z0,z1,z2,hq⟩;have ae:Bw vw dX:=by first|exact hq|exact aW hq
          clear y0 aS y1 aV p0 p1;replace bz:=ai (bz.out.below ae);replace Hy:=kB Hy ae;replace Hx:=kB Hx ae;replace Hp:=kB Hp ae;replace HV:=ai (HV.out.below ae);replace HG:=ai (HG.out.below ae);obtain⟨y0,aS,y1,aV⟩:=Hy.out.g2;obtain⟨p0,p1⟩:=Hp.out.c2;replace Hb:=aB Hb ae;clear ae;refine hK _ _ (λ_=>bz.out) ?_;clear hK K
          refine pT rfl rfl ?_
          refine aI rfl rfl (λK hK=>?_);go_simp;refine hK _ _ (by first|exact λh=>absurd h zd|exact λ_=>bz.out|exact λ_=>bz.out.drew) ?_;clear hK K
          refine aI rfl rfl (λK hK=>?_);go_simp;with_reducible refine(BV.out j k hlt _).mono ?_
          rintro e gP ⟨rfl,hq⟩;have ae:Bw dX gP:=by first|exact hq|exact aW hq
          clear y0 aS y1 aV p0 p1;replace bz:=ai (bz.out.below ae);replace Hy:=kB Hy ae;replace Hx:=kB Hx ae;replace Hp:=kB Hp ae;replace HV:=ai (HV.out.below ae);replace HG:=ai (HG.out.below ae);obtain⟨y0,aS,y1,aV⟩:=Hy.out.g2;obtain⟨p0,p1⟩:=Hp.out.c2;replace Hb:=aB Hb ae;clear ae;refine hK _ _ (λ_=>bz.out) ?_;clear hK K
          refine aI rfl rfl (λK hK=>?_);go_simp;with_reducible refine(jz.out j k hlt a9 c9 _ HV.out).mono ?_
          rintro e jU ⟨oO,oU,rfl,tJ,hq⟩;have ae:Bw gP jU:=by first|exact hq|exact aW hq
          clear y0 aS y1 aV p0 p1;replace bz:=ai (bz.out.below ae);replace Hy:=kB Hy ae;replace Hx:=kB Hx ae;replace Hp:=kB Hp ae;replace HV:=ai (HV.out.below ae);replace HG:=ai (HG.out.below ae);obtain⟨y0,aS,y1,aV⟩:=Hy.out.g2;obtain⟨p0,p1⟩:=Hp.out.c2;replace Hb:=aB Hb ae;clear ae;have HX:=ai tJ;clear tJ;refine hK _ _ (λ_=>bz.out) ?_;clear hK K
          iterate 3 (refine pT rfl rfl ?_)
          refine aI rfl rfl (λK hK=>?_);go_simp;refine hK _ _ (by first|exact λh=>absurd h zd|exact λ_=>bz.out|exact λ_=>(by first|exact bz.out.setCell zp _|exact(bz.out.setCell zp _).setCell zp _|exact((bz.out.setCell zp _).setCell zp _).setCell zp _)) ?_;clear hK K
          simp only[bi];go_wp2_with fail;go_meet;exact⟨rfl,oO,oU,(Hy.out.set 0 _).set 1 _,((Hp.out.so (w9.heap.size) 0 zo _).so (w9.heap.size) 1 zo _),HX.out.store Hy.out zd _ _,HG.out.store Hy.out zd _ _,((aJ ue.out Hb.out).setCell zp _).setCell zp _⟩
        . go_simp;with_reducible refine(VC.out k bG j hlt _ (by first|exact aJ vt.out Hb.out|exact aJ vt.out Hb.out.drew) _ (by first|exact Hx.out|exact Hx.out.drew)).mono ?_
          rintro e dX ⟨b8,o8,c8,rfl,ix8,z0,z1,z2,hq⟩;have ae:Bw vw dX:=by first|exact hq|exact aW hq
          clear y0 aS y1 aV p0 p1;replace bz:=ai (bz.out.below ae);replace Hy:=kB Hy ae;replace Hx:=kB Hx ae;replace Hp:=kB Hp ae;replace HV:=ai (HV.out.below ae);replace HG:=ai (HG.out.below ae);obtain⟨y0,aS,y1,aV⟩:=Hy.out.g2;obtain⟨p0,p1⟩:=Hp.out.c2;replace Hb:=aB Hb ae;clear ae;refine hK _ _ (λ_=>bz.out) ?_;clear hK K
          iterate 1 (refine Md rfl rfl (v:=?_) (λw' hw'=>?_) ?_;rotate_left;(focus go_simp;try with_reducible rfl))
          refine Dp rfl rfl rfl rfl rfl rfl  (λK hK=>?_) (λK hK=>?_) 
          . go_simp;refine hK _ _ (by first|exact λh=>absurd h zd|exact λ_=>bz.out|exact λ_=>bz.out.drew) ?_;clear hK K
            refine wn ?_;refine aI rfl rfl (λK hK=>?_);go_simp;refine hK _ _ (by first|exact λh=>absurd h zd|exact λ_=>bz.out|exact λ_=>bz.out.drew) ?_;clear hK K
            refine aI rfl rfl (λK hK=>?_);go_simp;with_reducible refine(BV.out j k hlt _).mono ?_
            rintro e gP ⟨rfl,hq⟩;have ae:Bw dX gP:=by first|exact hq|exact aW hq
            clear y0 aS y1 aV p0 p1;replace bz:=ai (bz.out.below ae);replace Hy:=kB Hy ae;replace Hx:=kB Hx ae;replace Hp:=kB Hp ae;replace HV:=ai (HV.out.below ae);replace HG:=ai (HG.out.below ae);obtain⟨y0,aS,y1,aV⟩:=Hy.out.g2;obtain⟨p0,p1⟩:=Hp.out.c2;replace Hb:=aB Hb ae;clear ae;refine hK _ _ (λ_=>bz.out) ?_;clear hK K
            refine aI rfl rfl (λK hK=>?_);go_simp;with_reducible refine(jz.out j k hlt a9 c9 _ HV.out).mono ?_
            rintro e jU ⟨oO,oU,rfl,tJ,hq⟩;have ae:Bw gP jU:=by first|exact hq|exact aW hq
            clear y0 aS y1 aV p0 p1;replace bz:=ai (bz.out.below ae);replace Hy:=kB Hy ae;replace Hx:=kB Hx ae;replace Hp:=kB Hp ae;replace HV:=ai (HV.out.below ae);replace HG:=ai (HG.out.below ae);obtain⟨y0,aS,y1,aV⟩:=Hy.out.g2;obtain⟨p0,p1⟩:=Hp.out.c2;replace Hb:=aB Hb ae;clear ae;have HX:=ai tJ;clear tJ;refine hK _ _ (λ_=>bz.out) ?_;clear hK K
            iterate 3 (refine pT rfl rfl ?_)
            refine aI rfl rfl (λK hK=>?_);go_simp;refine hK _ _ (by first|exact λh=>absurd h zd|exact λ_=>bz.out|exact λ_=>(by first|exact bz.out.setCell zp _|exact(bz.out.setCell zp _).setCell zp _|exact((bz.out.setCell zp _).setCell zp _).setCell zp _)) ?_;clear hK K
            simp only[bi];go_wp2_with fail;go_meet;exact⟨rfl,oO,oU,(Hy.out.set 0 _).set 1 _,((Hp.out.so (w9.heap.size) 0 zo _).so (w9.heap.size) 1 zo _),HX.out.store Hy.out zd _ _,HG.out.store Hy.out zd _ _,((aJ ue.out Hb.out).setCell zp _).setCell zp _⟩
          . go_simp;refine hK _ _ (by first|exact λh=>absurd h zd|exact λ_=>bz.out|exact λ_=>bz.out.drew) ?_;clear hK K
            refine Dp rfl rfl rfl rfl rfl rfl  (λK hK=>?_) (λK hK=>?_) 
            . go_simp;refine hK _ _ (by first|exact λh=>absurd h zd|exact λ_=>bz.out|exact λ_=>bz.out.drew) ?_;clear hK K
              refine wn ?_;refine aI rfl rfl (λK hK=>?_);go_simp;with_reducible refine(BV.out j k hlt _).mono ?_
              rintro e gP ⟨rfl,hq⟩;have ae:Bw dX gP:=by first|exact hq|exact aW hq
              clear y0 aS y1 aV p0 p1;replace bz:=ai (bz.out.below ae);replace Hy:=kB Hy ae;replace Hx:=kB Hx ae;replace Hp:=kB Hp ae;replace HV:=ai (HV.out.below ae);replace HG:=ai (HG.out.below ae);obtain⟨y0,aS,y1,aV⟩:=Hy.out.g2;obtain⟨p0,p1⟩:=Hp.out.c2;replace Hb:=aB Hb ae;clear ae;refine hK _ _ (λ_=>bz.out) ?_;clear hK K
              refine aI rfl rfl (λK hK=>?_);go_simp;with_reducible refine(jz.out j k hlt a9 c9 _ HV.out).mono ?_
              rintro e jU ⟨oO,oU,rfl,tJ,hq⟩;have ae:Bw gP jU:=by first|exact hq|exact aW hq
              clear y0 aS y1 aV p0 p1;replace bz:=ai (bz.out.below ae);replace Hy:=kB Hy ae;replace Hx:=kB Hx ae;replace Hp:=kB Hp ae;replace HV:=ai (HV.out.below ae);replace HG:=ai (HG.out.below ae);obtain⟨y0,aS,y1,aV⟩:=Hy.out.g2;obtain⟨p0,p1⟩:=Hp.out.c2;replace Hb:=aB Hb ae;clear ae;have HX:=ai tJ;clear tJ;refine hK _ _ (λ_=>bz.out) ?_;clear hK K
              iterate 3 (refine pT rfl rfl ?_)
              refine aI rfl rfl (λK hK=>?_);go_simp;refine hK _ _ (by first|exact λh=>absurd h zd|exact λ_=>bz.out|exact λ_=>(by first|exact bz.out.setCell zp _|exact(bz.out.setCell zp _).setCell zp _|exact((bz.out.setCell zp _).setCell zp _).setCell zp _)) ?_;clear hK K
              simp only[bi];go_wp2_with fail;go_meet;exact⟨rfl,oO,oU,(Hy.out.set 0 _).set 1 _,((Hp.out.so (w9.heap.size) 0 zo _).so (w9.heap.size) 1 zo _),HX.out.store Hy.out zd _ _,HG.out.store Hy.out zd _ _,((aJ ue.out Hb.out).setCell zp _).setCell zp _⟩
            . go_simp;with_reducible refine(BV.out j k hlt _).mono ?_
              rintro e gP ⟨rfl,hq⟩;have ae:Bw dX gP:=by first|exact hq|exact aW hq
              clear y0 aS y1 aV p0 p1;replace bz:=ai (bz.out.below ae);replace Hy:=kB Hy ae;replace Hx:=kB Hx ae;replace Hp:=kB Hp ae;replace HV:=ai (HV.out.below ae);replace HG:=ai (HG.out.below ae);obtain⟨y0,aS,y1,aV⟩:=Hy.out.g2;obtain⟨p0,p1⟩:=Hp.out.c2;replace Hb:=aB Hb ae;clear ae;refine hK _ _ (λ_=>bz.out) ?_;clear hK K
              refine wn ?_;refine aI rfl rfl (λK hK=>?_);go_simp;refine hK _ _ (by first|exact λh=>absurd h zd|exact λ_=>bz.out|exact λ_=>bz.out.drew) ?_;clear hK K
              refine aI rfl rfl (λK hK=>?_);go_simp;with_reducible refine(jz.out j k hlt a9 c9 _ HV.out).mono ?_
              rintro e jU ⟨oO,oU,rfl,tJ,hq⟩;have ae:Bw gP jU:=by first|exact hq|exact aW hq
              clear y0 aS y1 aV p0 p1;replace bz:=ai (bz.out.below ae);replace Hy:=kB Hy ae;replace Hx:=kB Hx ae;replace Hp:=kB Hp ae;replace HV:=ai (HV.out.below ae);replace HG:=ai (HG.out.below ae);obtain⟨y0,aS,y1,aV⟩:=Hy.out.g2;obtain⟨p0,p1⟩:=Hp.out.c2;replace Hb:=aB Hb ae;clear ae;have HX:=ai tJ;clear tJ;refine hK _ _ (λ_=>bz.out) ?_;clear hK K
              iterate 3 (refine pT rfl rfl ?_)
              refine aI rfl rfl (λK hK=>?_);go_simp;refine hK _ _ (by first|exact λh=>absurd h zd|exact λ_=>bz.out|exact λ_=>(by first|exact bz.out.setCell zp _|exact(bz.out.setCell zp _).setCell zp _|exact((bz.out.setCell zp _).setCell zp _).setCell zp _)) ?_;clear hK K
              simp only[bi];go_wp2_with fail;go_meet;exact⟨rfl,oO,oU,(Hy.out.set 0 _).set 1 _,((Hp.out.so (w9.heap.size) 0 zo _).so (w9.heap.size) 1 zo _),HX.out.store Hy.out zd _ _,HG.out.store Hy.out zd _ _,((aJ ue.out Hb.out).setCell zp _).setCell zp _⟩
       case rest=>
        obtain⟨rfl,oO,oU,qy,qp,qu,qg,qb⟩:=hcut;clear y0 aS y1 aV q0 q1 q2 p0 p1 Hy Hp HG HV Hb Hq Hx;obtain⟨Hy,Hp,HX,HG,Hb⟩:=gJ qy qp qu qg qb;clear qy qp qu qg qb;obtain⟨y0,y1⟩:=Hy.out.c2;obtain⟨p0,jf,p1,jg⟩:=Hp.out.g2;have HX:Hid (cz wc oO oU (U j k)):=HX.out;have HG:Hid (cz wc aP cP (L j k)):=HG.out;have P0:=p0;have P1:=p1;have Y0:=y0;have Y1:=y1;have av2:=Hy.out.lt;have avD:=Hp.out.lt;obtain⟨W15,atC,ae,Hm⟩:=cd wc 91 [af (n:Int),.slice aP (L j k).length cP,af (n:Int),.slice oO (U j k).length oU];clear y0 y1;replace Hy:=kB Hy ae;clear p0 jf p1 jg;replace Hp:=kB Hp ae;replace HX:=ai (HX.out.below ae);replace HG:=ai (HG.out.below ae);obtain⟨y0,y1⟩:=Hy.out.c2;obtain⟨p0,jf,p1,jg⟩:=Hp.out.g2;obtain⟨m0,m1,m2,m3⟩:=Hm.out.c4;replace Hb:=aB Hb ae;clear ae;go_wp2_with fail;refine(uZ.out j k hlt bG _ _ aP cP oO oU Hm.out HG.out HX.out).mono ?_;rintro e w16 ⟨a16,c16,rfl,al2,ae⟩;clear y0 y1 p0 jf p1 jg m0 m1 m2 m3;replace Hy:=kB Hy ae;replace Hp:=kB Hp ae;replace HX:=ai (HX.out.below ae);replace HG:=ai (HG.out.below ae);obtain⟨Hm,m0,m1,m2,m3⟩:=dU Hm ae;obtain⟨y0,y1⟩:=Hy.out.c2;obtain⟨p0,jf,p1,jg⟩:=Hp.out.g2;replace Hb:=aB Hb ae;clear ae;have aln:=aJ wR.out Hb.out;have auH:=Hp.out.lt;clear P0 P1 Y0 Y1;go_wp2;go_roundw;case rel=>exact⟨k+1,a16,c16,by omega,by go_num,(Hp.out.set 0 _).set 1 _,al2.store Hp.out zd _ _,(aln.setCell zp _).setCell zp _⟩
        case measure=>simp[intOf];omega
     . obtain rfl:n=k:=by omega
       have hp2:ar wr w4.heap.size 91 [af (n:Int),.slice aP (T j).length cP]:=by rw[<-wQ.out j hlt];exact Hp.out
       have hl2:cz wr aP cP (T j):=by rw[<-wQ.out j hlt];exact NJ.out
       obtain⟨rB,nD⟩:=aO hp2 hl2;clear hp2 hl2 Hp NJ;have Hp:=rB;have szi:=wR.out.size;have Hb:Hid (Bw wr wr):=Below.refl _ _;obtain⟨p0,p1⟩:=Hp.out.c2;have P0:=p0;have P1:=p1;have anq:=Hp.out.lt;obtain⟨W6,nO,ae,Hc⟩:=cd wr 91 [af (n:Int),.slice aP (T j).length cP];clear p0 p1;obtain⟨Hp,p0,p1⟩:=aR Hp ae;obtain⟨c0,c1⟩:=Hc.out.c2;replace Hb:=aB Hb ae;clear ae;have di:=ownsRow_below Ho.out (aJ wR.out Hb.out);have jR:=Hb.out.size;go_wp2_with (at_builtin;refine wpList_append_own_at _ rfl _ _ 80 rfl w3.heap.size 91 j0 _ 2 32 Tryz.underlying80 Hj.out jA.out kz.out kC.out rfl zd v j (ps.flatMap jv) rfl di ⟨wr.heap.size,0,none⟩ 1 1 [af (n:Int),.slice aP (T j).length cP] rfl rfl (ic Hc.out) zy zx zo zo ?_;intro v' dQ vS uC _ iE;obtain⟨g',oQ,rfl⟩:=ownsRow_succ vS);have CQ:∀g,v.ownBlock=some g->∃cur t,W6.heap[g]?=some (.cells cur t)/\t≠93:=λg e=>by obtain⟨cur,t,h1,h2⟩:=ab5 di g e;exact⟨cur,t,h1,by rw[h2];decide⟩
       have Gi:=(nD.out.below Hb.out).grown uC CQ;have Lq:=(yU.out.below (aJ wR.out Hb.out)).grown uC CQ;have al1:=acd Lq (show T ps.length=T j by rw[jY.out]) Gi (yA.out j hlt);have e10:ps.flatMap jv++[af (n:Int),.slice aP (T j).length cP]=(ps++[(⟨(n:Int),aP,(T j).length,cP⟩:Pv)]).flatMap jv:=by rw[List.flatMap_append];rfl
       rw[e10]at vS;have tB:=(aJ bu.out (aJ wR.out Hb.out)).grown uC zo (λj e=>dz di j e);go_roundw;case rel=>exact⟨j+1,_,_,by omega,by go_num,rfl,by rw[List.length_append,jY.out];rfl,vS,al1,tB⟩
       case measure=>simp[intOf];omega
  . obtain rfl:j=n+1:=by omega
    obtain⟨a2,cap2,rfl,jm,_⟩:=eo Ho.out;have pZ:=Dm Ho.out;obtain⟨sB,yK,ML⟩:=cL jm pZ (aJ VA.out bu.out);clear jm pZ Ho bu;go_wp2;refine bodyPost_ret (results_tmp rfl _ _ _) rfl ⟨a2,cap2,ps,rfl,yK.out,jY.out,sB.out,yU.out,ML.out⟩
end Go.Proofs.YtoopepmmepmfnaaGreatDoor
