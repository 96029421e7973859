/- Package tri: the square of an edge. -/
import Derived.Test.YtdaadlblknpipaaGreatDoorZ12
import Derived.Test.YtdaadlblknpipaaGreatDoorZ7
import Derived.Test.YtdaadlblknpipaaGreatDoorZ10
set_option linter.unusedVariables false
set_option linter.unusedSimpArgs false
set_option maxRecDepth 100000
set_option maxHeartbeats 16000000
namespace Go.Proofs.YtdaadlblknpipaaGreatDoor
open Go.RowKit
attribute [local go_sem ↓] Go.wp_at_zero Go.wp_at_succ
def oP (p q : List Dyadic) : Nat -> Dyadic
 | 0=>0
 | k + 1=>oP p q k + (p.getD k 0 - q.getD k 0) * (p.getD k 0 - q.getD k 0)
theorem Ww {B : Nat} {p q : List Dyadic} (hp : ∀ c ∈ p,Sm B c) (hq : ∀ c ∈ q,Sm B c) (k : Nat) : Sm (2 * B + 2 + k) (oP p q k):=by
 induction k with
 | zero=>exact Sm.zero _
 | succ k ih =>have h1:=Sm.sub (QA hp k) (QA hq k);have h2:=Sm.mul h1 h1;exact Sm.add ih (h2.mono (show B + 1 + (B + 1) <= 2 * B + 2 + k by omega))
theorem ajA (a : Option Addr) (n cap : Nat) (P : List Raw) (a' : Option Addr) (cap' : Nat) (Q : List Raw) (B : Nat) (w : World) (hP : P.length = n) (hQ : Q.length = n) (hn : n <= 8) (ha : At w a (P.flatMap bD)) (ha' : At w a' (Q.flatMap bD))
 (Kf : ∀ x ∈ P,Fit B x) (Kg : ∀ x ∈ Q,Fit B x) (hB : B <= 10000000) (hT : aB w) :
 Calls Tryz.prog 89 #[.slice a n cap,.slice a' n cap'] w fun e w'=>e = .returned (bJ (oP (P.map aC) (Q.map aC) n)) /\ Bw w w':=by
 have TI : ∀ c ∈ P.map aC,Sm B c:=fun c hc=>by obtain ⟨x,hx,rfl⟩:=List.mem_map.1 hc;exact (Kf x hx).2
 have TJ : ∀ c ∈ Q.map aC,Sm B c:=fun c hc=>by obtain ⟨x,hx,rfl⟩:=List.mem_map.1 hc;exact (Kg x hx).2
 have mS:=fun k=>Ww TI TJ k;have hstep : ∀ k (h1 : k < P.length) (h2 : k < Q.length),oP (P.map aC) (Q.map aC) (k + 1) = oP (P.map aC) (Q.map aC) k + (aC P[k] - aC Q[k]) * (aC P[k] - aC Q[k]):=fun k h1 h2=>by
  have e1 : (P.map aC).getD k 0 = aC P[k]:=by simp [h1]
  have e2 : (Q.map aC).getD k 0 = aC Q[k]:=by simp [h2]
  rw [oP,e1,e2]
 have hs0 : oP (P.map aC) (Q.map aC) 0 = 0:=rfl;obtain ⟨F,hF⟩ : ∃ F,oP (P.map aC) (Q.map aC) = F:=⟨_,rfl⟩;rw [hF] at hs0 ⊢;simp only [hF] at mS hstep;have HP:=ah hP;have HQ:=ah hQ;have Ha:=ah ha;have oZ:=ah ha';have Gw:=ah Kf;have za:=ah Kg;have HT:=ah hT;have ZW:=ah mS;have fY:=ah hstep;have nM:=ah hs0;clear hP hQ ha ha' Kf Kg hT mS hstep hs0 hF TI TJ;obtain ⟨W,aL⟩ : ∃ W,((w.alloc (.cells #[.bool false,.string ⟨#[]⟩,.int .i64 0] 30)).alloc (.cells #[.bool false,.string ⟨#[]⟩,.int .i64 0] 30)) = W:=⟨_,rfl⟩;have Hb : Hid (Bw w W):=by rw [<- aL];exact (zl.alloc zj _)
 have Hr : Hid (ai W (w.heap.size) 30 [.bool false,.string ⟨#[]⟩,.int .i64 0]):=by rw [<- aL];exact (ai.newAt _ _ _ zm).alloc _
 have Hs : Hid (ai W (w.heap.size + 1) 30 [.bool false,.string ⟨#[]⟩,.int .i64 0]):=by rw [<- aL];exact ai.newAt _ _ _ zm
 obtain ⟨r0,aj,r1,ar,r2,aF⟩:=Hr.out.g3;obtain ⟨s0,bV,s1,bW,s2,cW⟩:=Hs.out.g3;go_enter Tryz.func89,Tryz.ntmps89;go_wp2_with fail;clear r0 aj r1 ar r2 aF s0 bV s1 bW s2 cW;obtain ⟨R,hR⟩ : ∃ R : World -> Prop,(fun w1=>ai w1 (w.heap.size) 30 [.bool false,.string ⟨#[]⟩,.int .i64 0] /\ ai w1 (w.heap.size + 1) 30 [.bool false,.string ⟨#[]⟩,.int .i64 0] /\ Bw w w1) = R:=⟨_,rfl⟩;first | refine bB R ?hR ?_ | refine bA R ?hR ?_
 case hR=>subst hR;exact ⟨(((Hr.out.so (w.heap.size + 1) 0 zo _).so (w.heap.size + 1) 1 zo _).so (w.heap.size + 1) 2 zo _),(((Hs.out.set 0 _).set 1 _).set 2 _),(((Hb.out.sc (w.heap.size + 1) 0 ZS _).sc (w.heap.size + 1) 1 ZS _).sc (w.heap.size + 1) 2 ZS _)⟩
 subst hR;rintro w1 ⟨qr,qs,ae⟩;replace Hr:=ah qr;clear qr;replace Hs:=ah qs;clear qs;obtain ⟨r0,aj,r1,ar,r2,aF⟩:=Hr.out.g3;obtain ⟨s0,bV,s1,bW,s2,cW⟩:=Hs.out.g3;replace Hb:=ah ae;clear ae;have lr:=Hr.out.lt;have ls:=Hs.out.lt;go_wp2_with fail;go_loopw [11] (fun i wr=>∃ (k : Nat) (X : Dyadic),k <= n /\ i = .int .i64 (k : Int) /\ F k = X /\ ai wr w.heap.size 30 [.bool false,.string ⟨#[]⟩,.int .i64 0] /\ ai wr (w.heap.size + 1) 30 (bD (canon X)) /\ Bw w wr) (fun i _=>n - (intOf i).toNat);case atStart=>exact ⟨0,0,Nat.zero_le _,rfl,nM.out,Hr.out,Hs.out,Hb.out⟩
 case round=>
  clear r0 r1 r2 aj ar aF s0 s1 s2 bV bW cW Hr Hs;obtain ⟨k,X,hk,rfl,hX,pr,ps,pb⟩:=hrel;by_cases hlt : k < n
  . have k1 : k < P.length:=by rw [HP.out];exact hlt
    have k2 : k < Q.length:=by rw [HQ.out];exact hlt
    obtain ⟨sp,mp,ep,gA⟩ : ∃ s m e,P[k] = (s,m,e):=⟨_,_,_,rfl⟩;obtain ⟨sq,mq,eq,mV⟩ : ∃ s m e,Q[k] = (s,m,e):=⟨_,_,_,rfl⟩;have eJ:=Gw.out _ (List.getElem_mem k1);have mf:=za.out _ (List.getElem_mem k2);have hst:=fY.out k k1 k2;rw [gA] at eJ hst;rw [mV] at mf hst;obtain ⟨D,hD⟩ : ∃ D,aC (sp,mp,ep) - aC (sq,mq,eq) = D:=⟨_,rfl⟩;obtain ⟨E,hE⟩ : ∃ E,D * D = E:=⟨_,rfl⟩;obtain ⟨Y,hY⟩ : ∃ Y,X + E = Y:=⟨_,rfl⟩;rw [hX,hD,hE,hY] at hst;have kC : Sm (B + 1) D:=by rw [<- hD];exact Sm.sub eJ.2 mf.2
    have QP : Sm (2 * B + 2) E:=by rw [<- hE];exact (Sm.mul kC kC).mono zo
    have gH : Sm (2 * B + 2 + k) X:=by rw [<- hX];exact ZW.out k
    obtain ⟨b1,o1,eI,p0,p1,p2⟩:=(Ha.out.below pb).num k k1 gA;obtain ⟨b2,o2,gv,q0,q1,q2⟩:=(oZ.out.below pb).num k k2 mV;have kH:=mW n cap k (k : Int) eI hlt rfl;have oD:=mW n cap' k (k : Int) gv hlt rfl;have Hp : Hid (bj wr b1 (o1 + k * 3) [.bool sp,.string (bs mp),.int .i64 ep]):=iM p0 p1 p2;have Hq : Hid (bj wr b2 (o2 + k * 3) [.bool sq,.string (bs mq),.int .i64 eq]):=iM q0 q1 q2;have kX:=ah eJ;have wN:=ah mf;have HD:=ah hD;have HE:=ah hE;have HY:=ah hY;have bX:=ah hst;have Xo:=ah kC;have Xq:=ah QP;have Cx:=ah gH;have Hr:=ah pr;have Hs : Hid (ai wr (w.heap.size + 1) 30 [.bool (au (dN X)),.string (bs (nt (dN X).natAbs)),.int .i64 (dE X)]):=ps;have kV:=ah pb;have cm:=ah (HT.out.below pb);have szb:=pb.size;clear pr ps pb eJ mf hst hD hE hY kC QP gH p0 p1 p2 q0 q1 q2 gA mV hX eI gv;have Hb : Hid (Bw wr wr):=Below.refl _ _;go_upto_region 5 with fail
    go_cut [7] (fun s7 wx=>∃ g : Nat,s7 = .pointer (some ⟨g,0,none⟩) /\ wr.heap.size <= g /\ ai wx g 30 [.bool (au (dN D)),.string (bs (nt (dN D).natAbs)),.int .i64 (dE D)] /\ Bw wr wx);case first=>
     have p0 : wr.cell? ⟨b1,o1 + k * 3,none⟩ = some (.bool sp):=Hp.out.cell 0 zm;have p1 : wr.cell? ⟨b1,o1 + k * 3 + 1,none⟩ = some (.string (bs mp)):=Hp.out.cell 1 zm;have p2 : wr.cell? ⟨b1,o1 + k * 3 + 2,none⟩ = some (.int .i64 ep):=Hp.out.cell 2 zm;have q0 : wr.cell? ⟨b2,o2 + k * 3,none⟩ = some (.bool sq):=Hq.out.cell 0 zm;have q1 : wr.cell? ⟨b2,o2 + k * 3 + 1,none⟩ = some (.string (bs mq)):=Hq.out.cell 1 zm;have q2 : wr.cell? ⟨b2,o2 + k * 3 + 2,none⟩ = some (.int .i64 eq):=Hq.out.cell 2 zm;obtain ⟨p0,p1,p2⟩:=Hp.out.w3;obtain ⟨q0,q1,q2⟩:=Hq.out.w3;refine MR (fun w'=>w'.cell? ⟨b1,o1 + k * 3,none⟩ = some (.bool sp) /\ w'.cell? ⟨b1,o1 + k * 3 + 1,none⟩ = some (.string (bs mp)) /\ w'.cell? ⟨b1,o1 + k * 3 + 2,none⟩ = some (.int .i64 ep) /\ w'.cell? ⟨b2,o2 + k * 3,none⟩ = some (.bool sq) /\ w'.cell? ⟨b2,o2 + k * 3 + 1,none⟩ = some (.string (bs mq)) /\ w'.cell? ⟨b2,o2 + k * 3 + 2,none⟩ = some (.int .i64 eq)) (fun i=>Nat.blt i 10) 8 9 [(9,false),(10,false)] [(8,false),(10,false)] [0,1,2,3,4,5,6,7] zk zk rfl rfl zk zc ⟨p0,p1,p2,q0,q1,q2⟩ ?_;iterate 8 (refine LU rfl rfl (v:=?_) (fun w' hw'=>?_) ?_;rotate_left;(focus obtain ⟨q0,q1,q2,q3,q4,q5⟩:=hw';go_simp;try with_reducible rfl);try simp only [UU])
     refine LQ rfl rfl rfl rfl (fun K hK=>?_) (fun K hK=>?_)
     . go_simp;with_reducible refine (xq sp mp ep sq mq eq D B HD.out _ kX.out wN.out zo (by first | exact cm.out | exact aB.drew cm.out | exact aB.alloc cm.out _ | exact aB.drew (aB.alloc cm.out _) | exact aB.alloc (aB.drew cm.out) _)).mono ?_
       rintro e w5 ⟨rfl,hq⟩;have cB : Bw wr w5:=aN hq;refine hK _ _ ⟨cell_later cB p0,cell_later cB p1,cell_later cB p2,cell_later cB q0,cell_later cB q1,cell_later cB q2⟩ ?_;try simp only [UU]
       refine aI rfl rfl (fun K hK=>?_);go_simp;refine hK _ _ (fun _=>⟨aH (cell_later cB p0),aH (cell_later cB p1),aH (cell_later cB p2),aH (cell_later cB q0),aH (cell_later cB q1),aH (cell_later cB q2)⟩) ?_;try simp only [UU]
       refine aI rfl rfl (fun K hK=>?_);go_simp;refine hK _ _ (fun h=>absurd h zd) ?_;simp only [aV];go_wp2_with fail;go_meet;exact ⟨w5.heap.size,rfl,cB.size,ai.new _ _ _,cB.alloc cB.size _⟩
     . go_simp;refine hK _ _ ⟨aH p0,aH p1,aH p2,aH q0,aH q1,aH q2⟩ ?_;try simp only [UU]
       refine aI rfl rfl (fun K hK=>?_);go_simp;with_reducible refine (xq sp mp ep sq mq eq D B HD.out _ kX.out wN.out zo (by first | exact cm.out | exact aB.drew cm.out | exact aB.alloc cm.out _ | exact aB.drew (aB.alloc cm.out _) | exact aB.alloc (aB.drew cm.out) _)).mono ?_
       rintro e w5 ⟨rfl,hq⟩;have cB : Bw wr w5:=nS hq;have Hn : ai w5 wr.heap.size 30 [.bool false,.string ⟨#[]⟩,.int .i64 0]:=ai.below (ai.new wr.drew 30 [.bool false,.string ⟨#[]⟩,.int .i64 0]) hq;obtain ⟨n0,fh,n1,fp,n2,fq⟩:=Hn.g3;refine hK _ _ (fun _=>⟨cell_later cB p0,cell_later cB p1,cell_later cB p2,cell_later cB q0,cell_later cB q1,cell_later cB q2⟩) ?_;try simp only [UU]
       refine aI rfl rfl (fun K hK=>?_);go_simp;refine hK _ _ (fun h=>absurd h zd) ?_;simp only [aV];go_wp2_with fail;go_meet;exact ⟨wr.heap.size,rfl,Nat.le_refl _,((Hn.set 0 _).set 1 _).set 2 _,((cB.sc wr.heap.size 0 (Nat.le_refl _) _).sc wr.heap.size 1 (Nat.le_refl _) _).sc wr.heap.size 2 (Nat.le_refl _) _⟩
    case rest=>
     obtain ⟨g,rfl,hg,qd,qb⟩:=hcut;have CH : Hid (Fit (B + 1) (au (dN D),nt (dN D).natAbs,dE D)):=Xo.out.fit zo;have Yr : Hid (Fit (2 * B + 10) (au (dN X),nt (dN X).natAbs,dE X)):=(Cx.out.mono zo).fit zo;have Yq : Hid (Fit (2 * B + 10) (au (dN E),nt (dN E).natAbs,dE E)):=(Xq.out.mono zo).fit zo;have Za : Hid (aC (au (dN D),nt (dN D).natAbs,dE D) * aC (au (dN D),nt (dN D).natAbs,dE D) = E):=by show aC (canon D) * aC (canon D) = E;rw [bP];exact HE.out
     have XV : Hid (aC (au (dN X),nt (dN X).natAbs,dE X) + aC (au (dN E),nt (dN E).natAbs,dE E) = Y):=by show aC (canon X) + aC (canon E) = Y;rw [bP,bP];exact HY.out
     have ls2:=Hs.out.lt;replace Hr:=ah (Hr.out.below qb);replace Hs:=ah (Hs.out.below qb);have Hd:=ah qd;replace cm:=ah (cm.out.below qb);clear Hb;have Hb:=ah (aJ kV.out qb);have lg:=Hd.out.lt;clear qd qb;obtain ⟨r0,r1,r2⟩:=Hr.out.c3;obtain ⟨s0,bV,s1,bW,s2,cW⟩:=Hs.out.g3;obtain ⟨d0,d1,d2⟩:=Hd.out.c3;have cm : Hid (aB wc):=cm.out;go_wp2_with fail;refine bE (fun w'=>w'.cell? ⟨w.heap.size + 1,0,none⟩ = some (.bool (au (dN X))) /\ w'.cell? ⟨w.heap.size + 1,1,none⟩ = some (.string (bs (nt (dN X).natAbs))) /\ w'.cell? ⟨w.heap.size + 1,2,none⟩ = some (.int .i64 (dE X)) /\ w'.cell? ⟨g,0,none⟩ = some (.bool (au (dN D))) /\ w'.cell? ⟨g,1,none⟩ = some (.string (bs (nt (dN D).natAbs))) /\ w'.cell? ⟨g,2,none⟩ = some (.int .i64 (dE D))) (fun i=>Nat.blt i 7) [(0,true),(1,true),(2,true),(3,false),(4,false),(5,false),(6,false),(7,false)] zk zk rfl zk zc ⟨s0,s1,s2,d0,d1,d2⟩ ?_;iterate 3 (refine pT rfl rfl ?_ (by intro w' ⟨q0,q1,q2,q3,q4,q5⟩;go_simp;try with_reducible rfl);try simp only [UU])
     refine aI rfl rfl (fun K hK=>?_);go_simp;refine hK _ _ (fun _=>⟨aH s0,aH s1,aH s2,aH d0,aH d1,aH d2⟩) ?_;clear hK K;try simp only [UU]
     refine bG (fun w6=>ai w6 (wc.heap.size) 30 [.bool (au (dN D)),.string (bs (nt (dN D).natAbs)),.int .i64 (dE D),.bool (au (dN D)),.string (bs (nt (dN D).natAbs)),.int .i64 (dE D)] /\ Bw wc w6) (by first | exact dP | exact dQ) ?_;rintro w6 ⟨BO,ae⟩;clear r0 r1 r2 s0 bV s1 bW s2 cW d0 d1 d2;have amY:=Hr.out.lt;have am2:=Hs.out.lt;have amy:=Hd.out.lt;replace Hr:=kB Hr ae;replace Hs:=kB Hs ae;replace Hd:=kB Hd ae;replace cm:=kT cm ae;have ku:=ah BO;clear BO;obtain ⟨r0,r1,r2⟩:=Hr.out.c3;obtain ⟨s0,bV,s1,bW,s2,cW⟩:=Hs.out.g3;obtain ⟨d0,d1,d2⟩:=Hd.out.c3;obtain ⟨tO,tP,tQ,pS,pU,m15⟩:=ku.out.c6;replace Hb:=az Hb ae;clear ae;refine aI rfl rfl (fun K hK=>?_);go_simp;with_reducible refine (xp _ _ _ _ _ _ E (B + 1) Za.out _ 2 _ _ CH.out CH.out zo ku.out (by first | exact cm.out | exact aB.drew cm.out | exact aB.alloc cm.out _ | exact aB.drew (aB.alloc cm.out _) | exact aB.alloc (aB.drew cm.out) _)).mono ?_
     rintro e w7 ⟨rfl,hq⟩;have ae : Bw w6 w7:=by first | exact hq | exact aN hq
     clear r0 r1 r2 s0 bV s1 bW s2 cW d0 d1 d2 tO tP tQ pS pU m15;replace Hr:=kB Hr ae;replace Hs:=kB Hs ae;replace Hd:=kB Hd ae;replace cm:=kT cm ae;replace ku:=kB ku ae;obtain ⟨r0,r1,r2⟩:=Hr.out.c3;obtain ⟨s0,bV,s1,bW,s2,cW⟩:=Hs.out.g3;obtain ⟨d0,d1,d2⟩:=Hd.out.c3;obtain ⟨tO,tP,tQ,pS,pU,m15⟩:=ku.out.c6;replace Hb:=az Hb ae;clear ae;refine hK _ _ (fun _=>⟨s0,s1,s2,d0,d1,d2⟩) ?_;clear hK K;try simp only [UU]
     refine aI rfl rfl (fun K hK=>?_);go_simp;refine hK _ _ (fun _=>⟨aH s0,aH s1,aH s2,aH d0,aH d1,aH d2⟩) ?_;clear hK K;try simp only [UU]
     refine bG (fun w8=>ai w8 (w7.heap.size) 30 [.bool (au (dN X)),.string (bs (nt (dN X).natAbs)),.int .i64 (dE X),.bool (au (dN E)),.string (bs (nt (dN E).natAbs)),.int .i64 (dE E)] /\ Bw w7 w8) (by first | exact dP | exact dQ) ?_;rintro w8 ⟨BP,ae⟩;clear r0 r1 r2 s0 bV s1 bW s2 cW d0 d1 d2 tO tP tQ pS pU m15;have amZ:=Hr.out.lt;have am3:=Hs.out.lt;have amz:=Hd.out.lt;have amL:=ku.out.lt;replace Hr:=kB Hr ae;replace Hs:=kB Hs ae;replace Hd:=kB Hd ae;replace cm:=kT cm ae;replace ku:=kB ku ae;have sB:=ah BP;clear BP;obtain ⟨r0,r1,r2⟩:=Hr.out.c3;obtain ⟨s0,bV,s1,bW,s2,cW⟩:=Hs.out.g3;obtain ⟨d0,d1,d2⟩:=Hd.out.c3;obtain ⟨tO,tP,tQ,pS,pU,m15⟩:=ku.out.c6;obtain ⟨EX,EY,EZ,Fa,Fb,Fe⟩:=sB.out.c6;replace Hb:=az Hb ae;clear ae;refine aI rfl rfl (fun K hK=>?_);go_simp;with_reducible refine (Ab _ _ _ _ _ _ Y (2 * B + 10) XV.out _ 2 _ _ Yr.out Yq.out zo sB.out (by first | exact cm.out | exact aB.drew cm.out | exact aB.alloc cm.out _ | exact aB.drew (aB.alloc cm.out _) | exact aB.alloc (aB.drew cm.out) _)).mono ?_
     rintro e w9 ⟨rfl,hq⟩;have ae : Bw w8 w9:=by first | exact hq | exact aN hq
     clear r0 r1 r2 s0 bV s1 bW s2 cW d0 d1 d2 tO tP tQ pS pU m15 EX EY EZ Fa Fb Fe;replace Hr:=kB Hr ae;replace Hs:=kB Hs ae;replace Hd:=kB Hd ae;replace cm:=kT cm ae;replace ku:=kB ku ae;replace sB:=kB sB ae;obtain ⟨r0,r1,r2⟩:=Hr.out.c3;obtain ⟨s0,bV,s1,bW,s2,cW⟩:=Hs.out.g3;obtain ⟨d0,d1,d2⟩:=Hd.out.c3;obtain ⟨tO,tP,tQ,pS,pU,m15⟩:=ku.out.c6;obtain ⟨EX,EY,EZ,Fa,Fb,Fe⟩:=sB.out.c6;replace Hb:=az Hb ae;clear ae;refine hK _ _ (fun _=>⟨s0,s1,s2,d0,d1,d2⟩) ?_;clear hK K;try simp only [UU]
     refine aI rfl rfl (fun K hK=>?_);go_simp;refine hK _ _ (fun h=>absurd h zd) ?_;clear hK K;try simp only [UU]
     clear r0 r1 r2 s0 bV s1 bW s2 cW d0 d1 d2 tO tP tQ pS pU m15 EX EY EZ Fa Fb Fe;refine bG (fun dX=>ai dX (w.heap.size) 30 [.bool false,.string ⟨#[]⟩,.int .i64 0] /\ ai dX (w.heap.size + 1) 30 [.bool (au (dN Y)),.string (bs (nt (dN Y).natAbs)),.int .i64 (dE Y)] /\ ai dX (g) 30 [.bool (au (dN D)),.string (bs (nt (dN D).natAbs)),.int .i64 (dE D)] /\ ai dX (wc.heap.size) 30 [.bool (au (dN D)),.string (bs (nt (dN D).natAbs)),.int .i64 (dE D),.bool (au (dN D)),.string (bs (nt (dN D).natAbs)),.int .i64 (dE D)] /\ ai dX (w7.heap.size) 30 [.bool (au (dN X)),.string (bs (nt (dN X).natAbs)),.int .i64 (dE X),.bool (au (dN E)),.string (bs (nt (dN E).natAbs)),.int .i64 (dE E)] /\ Bw w dX) ⟨(((Hr.out.so (w.heap.size + 1) 0 zo _).so (w.heap.size + 1) 1 zo _).so (w.heap.size + 1) 2 zo _),(((Hs.out.set 0 _).set 1 _).set 2 _),(((Hd.out.so (w.heap.size + 1) 0 zo _).so (w.heap.size + 1) 1 zo _).so (w.heap.size + 1) 2 zo _),(((ku.out.so (w.heap.size + 1) 0 zo _).so (w.heap.size + 1) 1 zo _).so (w.heap.size + 1) 2 zo _),(((sB.out.so (w.heap.size + 1) 0 zo _).so (w.heap.size + 1) 1 zo _).so (w.heap.size + 1) 2 zo _),by first | exact (((Hb.out.sc (w.heap.size + 1) 0 ZS _).sc (w.heap.size + 1) 1 ZS _).sc (w.heap.size + 1) 2 ZS _) | exact Below.drew (((Hb.out.sc (w.heap.size + 1) 0 ZS _).sc (w.heap.size + 1) 1 ZS _).sc (w.heap.size + 1) 2 ZS _)⟩ ?_;rintro dX ⟨qr,qs,qd,BO,BP,ae⟩;replace Hr:=ah qr;clear qr;replace Hs:=ah qs;clear qs;replace Hd:=ah qd;clear qd;replace ku:=ah BO;clear BO;replace sB:=ah BP;clear BP;obtain ⟨r0,r1,r2⟩:=Hr.out.c3;obtain ⟨s0,bV,s1,bW,s2,cW⟩:=Hs.out.g3;obtain ⟨d0,d1,d2⟩:=Hd.out.c3;obtain ⟨tO,tP,tQ,pS,pU,m15⟩:=ku.out.c6;obtain ⟨EX,EY,EZ,Fa,Fb,Fe⟩:=sB.out.c6;replace Hb:=ah ae;clear ae;simp only [aV];go_wp2;go_roundw;case rel=>exact ⟨k + 1,Y,by omega,by go_num,bX.out,Hr.out,Hs.out,Hb.out⟩
     case measure=>simp [intOf];omega
  . obtain rfl : k = n:=by omega
    have Hr:=ah pr;have Hs : Hid (ai wr (w.heap.size + 1) 30 [.bool (au (dN X)),.string (bs (nt (dN X).natAbs)),.int .i64 (dE X)]):=ps;have HX:=ah hX;replace Hb:=ah pb;clear pr ps pb hX;obtain ⟨r0,aj,r1,ar,r2,aF⟩:=Hr.out.g3;obtain ⟨s0,s1,s2⟩:=Hs.out.c3;go_wp2;clear r0 aj r1 ar r2 aF s0 s1 s2;refine gq (fun w9=>ai w9 (w.heap.size) 30 [.bool (au (dN X)),.string (bs (nt (dN X).natAbs)),.int .i64 (dE X)] /\ ai w9 (w.heap.size + 1) 30 [.bool (au (dN X)),.string (bs (nt (dN X).natAbs)),.int .i64 (dE X)] /\ Bw w w9) ⟨(((Hr.out.set 0 _).set 1 _).set 2 _),(((Hs.out.so (w.heap.size) 0 zo _).so (w.heap.size) 1 zo _).so (w.heap.size) 2 zo _),(((Hb.out.sc (w.heap.size) 0 ZS _).sc (w.heap.size) 1 ZS _).sc (w.heap.size) 2 ZS _)⟩ ?_;rintro w9 ⟨qr,qs,ae⟩;replace Hr:=ah qr;clear qr;replace Hs:=ah qs;clear qs;obtain ⟨r0,aj,r1,ar,r2,aF⟩:=Hr.out.g3;obtain ⟨s0,s1,s2⟩:=Hs.out.c3;replace Hb:=ah ae;clear ae;refine bodyPost_ret (v:=bJ X) (by simp [results,Tryz.results89,go_sem,r0,r1,r2]) rfl ⟨by rw [HX.out],Hb.out⟩
def cH (rows : List (List Raw)) (n a b : Nat) : Dyadic:=oP ((rows.getD a []).map aC) ((rows.getD b []).map aC) n
def rO (sq : Nat -> Nat -> Dyadic) (a b : Nat) (s : Nat × Nat × Dyadic) : Nat × Nat × Dyadic:=if 0 < bM (sq a b - s.2.2) then (a,b,sq a b) else s
def nk (sq : Nat -> Nat -> Dyadic) (a : Nat) : Nat -> Nat -> Nat × Nat × Dyadic -> Nat × Nat × Dyadic
 | 0,_,s=>s
 | k + 1,b,s=>nk sq a k (b + 1) (rO sq a b s)
def mr (sq : Nat -> Nat -> Dyadic) (L : Nat) : Nat -> Nat -> Nat × Nat × Dyadic -> Nat × Nat × Dyadic
 | 0,_,s=>s
 | k + 1,a,s=>mr sq L k (a + 1) (nk sq a (L - (a + 1)) (a + 1) s)
def dh (sq : Nat -> Nat -> Dyadic) (L : Nat) : Nat × Nat × Dyadic:=mr sq L L 0 (0,1,sq 0 1)
theorem agl (sq : Nat -> Nat -> Dyadic) (Q : Nat × Nat × Dyadic -> Prop) (L a k b : Nat) (s : Nat × Nat × Dyadic) (hs : Q s) (hab : a < b) (hb : b + k <= L) (h : ∀ a b,a < b -> b < L -> Q (a,b,sq a b)) : Q (nk sq a k b s):=by
 induction k generalizing b s with
 | zero=>exact hs
 | succ k ih =>
   unfold nk;refine ih (b + 1) _ ?_ zo zo;unfold rO;split
   . exact h a b hab zo
   . exact hs
theorem agj (sq : Nat -> Nat -> Dyadic) (Q : Nat × Nat × Dyadic -> Prop) (L k a : Nat) (s : Nat × Nat × Dyadic) (hs : Q s) (hb : a + k <= L) (h : ∀ a b,a < b -> b < L -> Q (a,b,sq a b)) : Q (mr sq L k a s):=by
 induction k generalizing a s with
 | zero=>exact hs
 | succ k ih =>unfold mr;exact ih (a + 1) _ (agl sq Q L a _ (a + 1) s hs zo zo h) zo
theorem vU (sq : Nat -> Nat -> Dyadic) (L : Nat) (hL : 2 <= L) : (dh sq L).1 < (dh sq L).2.1 /\ (dh sq L).2.1 < L /\ (dh sq L).2.2 = sq (dh sq L).1 (dh sq L).2.1:=
 agj sq (fun s=>s.1 < s.2.1 /\ s.2.1 < L /\ s.2.2 = sq s.1 s.2.1) L L 0 (0,1,sq 0 1) ⟨Nat.zero_lt_one,hL,rfl⟩ zo (fun a b h1 h2=>⟨h1,h2,rfl⟩)
abbrev Ae (s : Nat × Nat × Dyadic) : List Value:=[.int .i64 (s.1 : Int),.int .i64 (s.2.1 : Int),.bool (au (dN s.2.2)),.string (bs (nt (dN s.2.2).natAbs)),.int .i64 (dE s.2.2)]
theorem At.drew {w : World} {a : Option Addr} {cs : List Value} (h : At w a cs) : At w.drew a cs:=h
theorem At.alloc {w : World} {a : Option Addr} {cs : List Value} (h : At w a cs) (o : Obj) : At (w.alloc o) a cs:=h.below zl
theorem ajB (rows : List (List Raw)) (n B x y : Nat) (a : Option Addr) (cap : Nat) (a' : Option Addr) (cap' : Nat) (D : Dyadic) (w : World) (hx : x < rows.length) (hy : y < rows.length) (hn : n <= 8) (hrow : ∀ r ∈ rows,r.length = n) (hfit : ∀ r ∈ rows,∀ c ∈ r,Fit B c) (hB : B <= 10000000)
 (hD : cH rows n x y = D) (ha : At w a (rows[x].flatMap bD)) (ha' : At w a' (rows[y].flatMap bD)) (hT : aB w) :
 Calls Tryz.prog 89 #[.slice a rows[x].length cap,.slice a' rows[y].length cap'] w fun e w'=>e = .returned (bJ D) /\ Bw w w':=by
 have h1:=hrow _ (List.getElem_mem hx);have h2:=hrow _ (List.getElem_mem hy);have e1 : rows.getD x [] = rows[x]:=by simp [hx]
 have e2 : rows.getD y [] = rows[y]:=by simp [hy]
 unfold cH at hD;rw [e1,e2] at hD;rw [h1,h2,<- hD];exact ajA a n cap rows[x] a' cap' rows[y] B w h1 h2 hn ha ha' (hfit _ (List.getElem_mem hx)) (hfit _ (List.getElem_mem hy)) hB hT
theorem Mw {rows : List (List Raw)} {n B : Nat} (hfit : ∀ r ∈ rows,∀ c ∈ r,Fit B c) (x y : Nat) : Sm (2 * B + 2 + n) (cH rows n x y):=by
 have h : ∀ z,∀ c ∈ (rows.getD z []).map aC,Sm B c:=fun z c hc=>by
  obtain ⟨u,hu,rfl⟩:=List.mem_map.1 hc;by_cases hz : z < rows.length
  . have e : rows.getD z [] = rows[z]:=by simp [hz]
    rw [e] at hu;exact (hfit _ (List.getElem_mem hz) u hu).2
  . have e : rows.getD z [] = []:=by simp [List.getD_eq_getElem?_getD,List.getElem?_eq_none (by omega : rows.length <= z)]
    rw [e] at hu;cases hu
 exact Ww (h x) (h y) n
theorem agq (a : Option Addr) (L cap n : Nat) (rows : List (List Raw)) (B : Nat) (w : World) (hL : rows.length = L) (hL2 : 2 <= L) (JC : L <= 9) (hn : n <= 8) (hrow : ∀ r ∈ rows,r.length = n) (ha : aY w a rows)
 (hfit : ∀ r ∈ rows,∀ c ∈ r,Fit B c) (hB : B <= 10000000) (hT : aB w) :
 Calls Tryz.prog 47 #[.slice a L cap] w fun e w'=>e = .returned (.agg (Ae (dh (cH rows n) L)).toArray) /\ Bw w w':=by
 obtain ⟨sq,mS⟩ : ∃ sq,cH rows n = sq:=⟨_,rfl⟩;have hsm : ∀ x y,Sm (2 * B + 10) (sq x y):=fun x y=>by rw [<- mS];exact (Mw hfit x y).mono zo
 have hcall : ∀ x y (hx : x < rows.length) (hy : y < rows.length) (a1 : Option Addr) (c1 : Nat) (a2 : Option Addr) (c2 : Nat) (W : World),At W a1 (rows[x].flatMap bD) -> At W a2 (rows[y].flatMap bD) -> aB W ->
  Calls Tryz.prog 89 #[.slice a1 rows[x].length c1,.slice a2 rows[y].length c2] W fun e w'=>e = .returned (bJ (sq x y)) /\ Bw W w':=fun x y hx hy a1 c1 a2 c2 W h1 h2 h3=>
  ajB rows n B x y a1 c1 a2 c2 (sq x y) W hx hy hn hrow hfit hB (by rw [<- mS]) h1 h2 h3
 obtain ⟨F,hF⟩ : ∃ F,dh (cH rows n) L = F:=⟨_,rfl⟩;rw [hF];rw [mS] at hF;have HL:=ah hL;have Ha:=ah ha;have OJ:=ah hsm;have jG:=ah hcall;have HF:=ah hF;have HT:=ah hT;have eU:=ah hT;clear hL ha hsm hcall hF hT hfit hrow mS;obtain ⟨X,hX⟩ : ∃ X,sq 0 1 = X:=⟨_,rfl⟩;have HX:=ah hX;clear hX;obtain ⟨W,aL⟩ : ∃ W,(w.alloc (.cells #[.int .i64 0,.int .i64 0,.bool false,.string ⟨#[]⟩,.int .i64 0] 83)) = W:=⟨_,rfl⟩;have Hb : Hid (Bw w W):=by rw [<- aL];exact zl
 have Hr : Hid (ai W (w.heap.size) 83 [.int .i64 0,.int .i64 0,.bool false,.string ⟨#[]⟩,.int .i64 0]):=by rw [<- aL];exact ai.newAt _ _ _ zm
 obtain ⟨r0,aj,r1,ar,r2,aF,r3,cz,r4,cQ⟩:=Hr.out.g5;have HT : Hid (aB W):=HT.out.below Hb.out;have HS : Hid (aY W a rows):=Ha.out.below Hb.out;go_enter Tryz.func47,Tryz.ntmps47;have lr:=Hr.out.lt;obtain ⟨b0,o0,a1,c1,iq,hc0,ir⟩:=HS.out.row 0 (by rw [HL.out];omega);obtain ⟨iz,jB,a2,c2,eI,hc1,jP⟩:=HS.out.row 1 (by rw [HL.out];omega);obtain ⟨rfl,rfl⟩ : iz = b0 /\ jB = o0:=by rw [iq] at eI;simp at eI;exact ⟨eI.1.symm,eI.2.symm⟩
 clear eI;have i0:=kJ L cap 0 0 iq zo rfl;have i1:=kJ L cap 1 1 iq zo rfl;rw [Nat.mul_one] at i0 i1;rw [Nat.add_zero] at i0 hc0;have jF:=ah iq;have vS : iz < W.heap.size:=World.block_lt_of_cell? W _ hc0;have rL:=fun W'=>jG.out 0 1 (by rw [HL.out];omega) (by rw [HL.out];omega) a1 c1 a2 c2 W';rw [HX.out] at rL;obtain ⟨n0,hn0⟩ : ∃ n0,(rows[0]'(by rw [HL.out];omega)).length = n0:=⟨_,rfl⟩;obtain ⟨n1,dF⟩ : ∃ n1,(rows[1]'(by rw [HL.out];omega)).length = n1:=⟨_,rfl⟩;rw [hn0] at hc0;rw [dF] at hc1;simp only [hn0,dF] at rL;have uL:=ah rL;have iw:=ah ir;have kU:=ah jP;have Hu : Hid (bj W iz jB [.slice a1 n0 c1]):=fun j hj=>by
  obtain rfl : j = 0:=by simp at hj;omega
  exact hc0
 have Hv : Hid (bj W iz (jB + 1) [.slice a2 n1 c2]):=fun j hj=>by
  obtain rfl : j = 0:=by simp at hj;omega
  exact hc1
 clear rL ir jP iq hn0 dF hc0 hc1;go_upto_region 1 with fail
 go_cut [3] (fun s3 wx=>∃ g : Nat,s3 = .pointer (some ⟨g,0,none⟩) /\ W.heap.size <= g /\ ai wx g 83 (Ae (0,1,X)) /\ Bw W wx);case first=>
  have u0:=Hu.out.w1;have v0:=Hv.out.w1;have HT : Hid (aB W):=HT.out;refine MR (fun w'=>w'.cell? ⟨iz,jB,none⟩ = some (.slice a1 n0 c1) /\ w'.cell? ⟨iz,jB + 1,none⟩ = some (.slice a2 n1 c2)) (fun i=>Nat.blt i 10) 7 9 [(8,true),(9,false),(10,false)] [(7,false),(8,true),(10,false)] [0,1,2,3,4,5,6] zk zk rfl rfl zk zc ⟨u0,v0⟩ ?_;iterate 7 (refine LU rfl rfl (v:=?_) (fun w' hw'=>?_) ?_;rotate_left;(focus obtain ⟨q0,q1⟩:=hw';go_simp;try with_reducible rfl);try simp only [UU])
  refine LQ rfl rfl rfl rfl (fun K hK=>?_) (fun K hK=>?_)
  . go_simp;with_reducible refine (uL.out _ (by first | exact iw.out | exact At.drew iw.out) (by first | exact kU.out | exact At.drew kU.out) (by first | exact HT.out | exact aB.drew HT.out | exact aB.alloc HT.out _ | exact aB.drew (aB.alloc HT.out _) | exact aB.alloc (aB.drew HT.out) _)).mono ?_
    rintro e w5 ⟨rfl,hq⟩;have cB : Bw W w5:=aN hq;refine hK _ _ ⟨cell_later cB u0,cell_later cB v0⟩ ?_;try simp only [UU]
    refine pT rfl rfl ?_;try simp only [UU]
    refine aI rfl rfl (fun K hK=>?_);go_simp;refine hK _ _ (fun _=>⟨aH (cell_later cB u0),aH (cell_later cB v0)⟩) ?_;try simp only [UU]
    refine aI rfl rfl (fun K hK=>?_);go_simp;refine hK _ _ (fun h=>absurd h zd) ?_;simp only [aV];go_wp2_with fail;go_meet;exact ⟨w5.heap.size,rfl,cB.size,ai.new _ _ _,cB.alloc cB.size _⟩
  . go_simp;refine hK _ _ ⟨aH u0,aH v0⟩ ?_;try simp only [UU]
    refine aI rfl rfl (fun K hK=>?_);go_simp;with_reducible refine (uL.out (W.alloc (.cells #[.int .i64 0,.int .i64 0,.bool false,.string ⟨#[]⟩,.int .i64 0] 83)).drew (iw.out.alloc _).drew (kU.out.alloc _).drew (by first | exact HT.out | exact aB.drew HT.out | exact aB.alloc HT.out _ | exact aB.drew (aB.alloc HT.out _) | exact aB.alloc (aB.drew HT.out) _)).mono ?_
    rintro e w5 ⟨rfl,hq⟩;have cB : Bw W w5:=nS hq;have Hn : ai w5 W.heap.size 83 [.int .i64 0,.int .i64 0,.bool false,.string ⟨#[]⟩,.int .i64 0]:=ai.below (ai.new W.drew 83 [.int .i64 0,.int .i64 0,.bool false,.string ⟨#[]⟩,.int .i64 0]) hq;have n0':=Hn.cell 0;have vZ:=Hn.cell 1;have wh:=Hn.cell 2;have n3':=Hn.cell 3;have n4':=Hn.cell 4;have fh:=Hn.free 0;have fp:=Hn.free 1;have fq:=Hn.free 2;have fG:=Hn.free 3;have fH:=Hn.free 4;refine hK _ _ (fun _=>⟨cell_later cB u0,cell_later cB v0⟩) ?_;try simp only [UU]
    refine pT rfl rfl ?_;try simp only [UU]
    refine aI rfl rfl (fun K hK=>?_);go_simp;refine hK _ _ (fun h=>absurd h zd) ?_;simp only [aV];go_wp2_with fail;go_meet;exact ⟨W.heap.size,rfl,Nat.le_refl _,((((Hn.set 0 _).set 1 _).set 2 _).set 3 _).set 4 _,((((cB.sc W.heap.size 0 (Nat.le_refl _) _).sc W.heap.size 1 (Nat.le_refl _) _).sc W.heap.size 2 (Nat.le_refl _) _).sc W.heap.size 3 (Nat.le_refl _) _).sc W.heap.size 4 (Nat.le_refl _) _⟩
 case rest=>
  obtain ⟨g,rfl,hg,qd,qb⟩:=hcut;have Hd:=ah qd;replace Hr:=ah (Hr.out.below qb);replace Hb:=ah (aJ Hb.out qb);have lg:=Hd.out.lt;have lr2:=Hr.out.lt;have szW:=qb.size;clear qd qb r0 r1 r2 r3 r4 aj ar aF cz cQ i0 i1 uL iw kU Hu Hv jF HS HT;have NE : Hid (Sm (2 * B + 10) X):=by rw [<- HX.out];exact OJ.out 0 1
  have Nj : Hid (mr sq L (L - 0) 0 (0,1,X) = F):=by rw [<- HX.out];exact HF.out
  go_wp2_with fail;go_loopw [18] (fun x wr=>∃ (k : Nat) (s : Nat × Nat × Dyadic),k <= L /\ x = .int .i64 (k : Int) /\ mr sq L (L - k) k s = F /\ Sm (2 * B + 10) s.2.2 /\ ai wr w.heap.size 83 [.int .i64 0,.int .i64 0,.bool false,.string ⟨#[]⟩,.int .i64 0] /\ ai wr g 83 (Ae s) /\ Bw w wr) (fun x _=>L - (intOf x).toNat);case atStart=>exact ⟨0,(0,1,X),Nat.zero_le _,rfl,Nj.out,NE.out,Hr.out,Hd.out,Hb.out⟩
  case round=>
   clear Hr Hd Hb Nj NE;obtain ⟨k,s,hk,rfl,hF,hs,pr,pd,pb⟩:=hrel;by_cases hlt : k < L
   . have Hr:=ah pr;have Hd:=ah pd;have Hb:=ah pb;have Hs:=ah hs;have Nl : Hid (mr sq L (L - (k + 1)) (k + 1) (nk sq k (L - (k + 1)) (k + 1) s) = F):=by rw [show L - k = L - (k + 1) + 1 by omega] at hF;exact hF
     clear pr pd pb hs hF;go_wp2_with fail;go_loopw [5] (fun x wr=>∃ (b : Nat) (s : Nat × Nat × Dyadic),b <= L /\ k < b /\ x = .int .i64 (b : Int) /\ mr sq L (L - (k + 1)) (k + 1) (nk sq k (L - b) b s) = F /\ Sm (2 * B + 10) s.2.2 /\ ai wr w.heap.size 83 [.int .i64 0,.int .i64 0,.bool false,.string ⟨#[]⟩,.int .i64 0] /\ ai wr g 83 (Ae s) /\ Bw w wr) (fun x _=>L - (intOf x).toNat);case atStart=>exact ⟨k + 1,s,by omega,by omega,by go_num,Nl.out,Hs.out,Hr.out,Hd.out,Hb.out⟩
     case round=>
      clear Hr Hd Hb Nl Hs;obtain ⟨b,s,hb1,hb2,rfl,hF,hs,pr,pd,pb⟩:=hrel;have Hr:=ah pr;have Hd:=ah pd;have Hb:=ah pb;have Hs:=ah hs;have Nk:=ah hF;clear pr pd pb hs hF;by_cases bi : b < L
      . obtain ⟨b0,o0,a1,c1,iq,hc0,ir⟩:=(Ha.out.below Hb.out).row k (by rw [HL.out];omega);obtain ⟨iz,jB,a2,c2,eI,hc1,jP⟩:=(Ha.out.below Hb.out).row b (by rw [HL.out];omega);obtain ⟨rfl,rfl⟩ : iz = b0 /\ jB = o0:=by rw [iq] at eI;simp at eI;exact ⟨eI.1.symm,eI.2.symm⟩
        clear eI;have i0:=kJ L cap k (k : Int) iq hlt rfl;have i1:=kJ L cap b (b : Int) iq bi rfl;rw [Nat.mul_one] at i0 i1;have rL:=fun W'=>jG.out k b (by rw [HL.out];omega) (by rw [HL.out];omega) a1 c1 a2 c2 W';obtain ⟨Y,hY⟩ : ∃ Y,sq k b = Y:=⟨_,rfl⟩;have vg:=OJ.out k b;rw [hY] at rL vg;obtain ⟨n0,hn0⟩ : ∃ n0,(rows[k]'(by rw [HL.out];omega)).length = n0:=⟨_,rfl⟩;obtain ⟨n1,dF⟩ : ∃ n1,(rows[b]'(by rw [HL.out];omega)).length = n1:=⟨_,rfl⟩;rw [hn0] at hc0;rw [dF] at hc1;simp only [hn0,dF] at rL;have uL:=ah rL;have iw:=ah ir;have kU:=ah jP;have HY:=ah hY;have NH:=ah vg;have HT:=ah (eU.out.below Hb.out);have Hu : Hid (bj wr iz (jB + k) [.slice a1 n0 c1]):=fun j hj=>by
         obtain rfl : j = 0:=by simp at hj;omega
         exact hc0
        have Hv : Hid (bj wr iz (jB + b) [.slice a2 n1 c2]):=fun j hj=>by
         obtain rfl : j = 0:=by simp at hj;omega
         exact hc1
        clear rL ir jP iq hn0 dF hc0 hc1 hY vg;have ls1:=Hr.out.lt;have ls2:=Hd.out.lt;go_upto_region 8 with fail
        go_cut [6] (fun s6 wx=>∃ g' : Nat,s6 = .pointer (some ⟨g',0,none⟩) /\ wr.heap.size <= g' /\ ai wx g' 30 [.bool (au (dN Y)),.string (bs (nt (dN Y).natAbs)),.int .i64 (dE Y)] /\ Bw wr wx);case first=>
         have u0:=Hu.out.w1;have v0:=Hv.out.w1;refine MR (fun w'=>w'.cell? ⟨iz,jB + k,none⟩ = some (.slice a1 n0 c1) /\ w'.cell? ⟨iz,jB + b,none⟩ = some (.slice a2 n1 c2)) (fun i=>Nat.blt i 10) 8 9 [(9,false),(10,false)] [(8,false),(10,false)] [0,1,2,3,4,5,6,7] zk zk rfl rfl zk zc ⟨u0,v0⟩ ?_;iterate 8 (refine LU rfl rfl (v:=?_) (fun w' hw'=>?_) ?_;rotate_left;(focus obtain ⟨q0,q1⟩:=hw';go_simp;try with_reducible rfl);try simp only [UU])
         refine LQ rfl rfl rfl rfl (fun K hK=>?_) (fun K hK=>?_)
         . go_simp;with_reducible refine (uL.out _ (by first | exact iw.out | exact At.drew iw.out) (by first | exact kU.out | exact At.drew kU.out) (by first | exact HT.out | exact aB.drew HT.out | exact aB.alloc HT.out _ | exact aB.drew (aB.alloc HT.out _) | exact aB.alloc (aB.drew HT.out) _)).mono ?_
           rintro e w5 ⟨rfl,hq⟩;have cB : Bw wr w5:=aN hq;refine hK _ _ ⟨cell_later cB u0,cell_later cB v0⟩ ?_;try simp only [UU]
           refine aI rfl rfl (fun K hK=>?_);go_simp;refine hK _ _ (fun _=>⟨aH (cell_later cB u0),aH (cell_later cB v0)⟩) ?_;try simp only [UU]
           refine aI rfl rfl (fun K hK=>?_);go_simp;refine hK _ _ (fun h=>absurd h zd) ?_;simp only [aV];go_wp2_with fail;go_meet;exact ⟨w5.heap.size,rfl,cB.size,ai.new _ _ _,cB.alloc cB.size _⟩
         . go_simp;refine hK _ _ ⟨aH u0,aH v0⟩ ?_;try simp only [UU]
           refine aI rfl rfl (fun K hK=>?_);go_simp;with_reducible refine (uL.out (wr.alloc (.cells #[.bool false,.string ⟨#[]⟩,.int .i64 0] 30)).drew (iw.out.alloc _).drew (kU.out.alloc _).drew (by first | exact HT.out | exact aB.drew HT.out | exact aB.alloc HT.out _ | exact aB.drew (aB.alloc HT.out _) | exact aB.alloc (aB.drew HT.out) _)).mono ?_
           rintro e w5 ⟨rfl,hq⟩;have cB : Bw wr w5:=nS hq;have Hn : ai w5 wr.heap.size 30 [.bool false,.string ⟨#[]⟩,.int .i64 0]:=ai.below (ai.new wr.drew 30 [.bool false,.string ⟨#[]⟩,.int .i64 0]) hq;obtain ⟨n0',fh,vZ,fp,wh,fq⟩:=Hn.g3;refine hK _ _ (fun _=>⟨cell_later cB u0,cell_later cB v0⟩) ?_;try simp only [UU]
           refine aI rfl rfl (fun K hK=>?_);go_simp;refine hK _ _ (fun h=>absurd h zd) ?_;simp only [aV];go_wp2_with fail;go_meet;exact ⟨wr.heap.size,rfl,Nat.le_refl _,((Hn.set 0 _).set 1 _).set 2 _,((cB.sc wr.heap.size 0 (Nat.le_refl _) _).sc wr.heap.size 1 (Nat.le_refl _) _).sc wr.heap.size 2 (Nat.le_refl _) _⟩
        case rest=>
         obtain ⟨g',rfl,hg',qn,qb⟩:=hcut;have Hn:=ah qn;replace Hr:=ah (Hr.out.below qb);replace Hd:=ah (Hd.out.below qb);replace Hb:=ah (aJ Hb.out qb);have yN:=ah (HT.out.below qb);clear qn qb Hu Hv iw kU uL HT i0 i1;obtain ⟨si,sj,sx⟩:=s;have Yt : Hid (Ok (au (dN Y),nt (dN Y).natAbs,dE Y)):=(NH.out.fit zo).1;have ze : Hid (Ok (au (dN sx),nt (dN sx).natAbs,dE sx)):=(Hs.out.fit zo).1;obtain ⟨c,hc⟩ : ∃ c,bM (Y - sx) = c:=⟨_,rfl⟩;have HC : Hid (bM (aC (au (dN Y),nt (dN Y).natAbs,dE Y) - aC (au (dN sx),nt (dN sx).natAbs,dE sx)) = c):=by
          show bM (aC (canon Y) - aC (canon sx)) = c
          rw [bP,bP];exact hc
         have Nn : Hid (mr sq L (L - (k + 1)) (k + 1) (nk sq k (L - (b + 1)) (b + 1) (rO sq k b (si,sj,sx))) = F):=by have h:=Nk.out;rw [show L - b = L - (b + 1) + 1 by omega] at h;exact h
         have hstep : rO sq k b (si,sj,sx) = if 0 < c then (k,b,Y) else (si,sj,sx):=by
          unfold rO;rw [HY.out];show (if 0 < bM (Y - sx) then _ else _) = _
          rw [hc]
         have fY:=ah hstep;clear hc hstep;obtain ⟨d0,Jg,d1,Jh,d2,Ji,d3,Qu,d4,Qv⟩:=Hd.out.g5;obtain ⟨n0,n1,n2⟩:=Hn.out.c3;obtain ⟨r0,r1,r2,r3,r4⟩:=Hr.out.c5;go_wp2_with fail;refine (PZ _ _ _ _ _ _ c HC.out _ Yt.out ze.out yN.out).mono ?_;rintro e w7 ⟨rfl,ae⟩;clear d0 Jg d1 Jh d2 Ji d3 Qu d4 Qv n0 n1 n2 r0 r1 r2 r3 r4;replace Hd:=kB Hd ae;replace Hn:=kB Hn ae;replace Hr:=kB Hr ae;obtain ⟨d0,Jg,d1,Jh,d2,Ji,d3,Qu,d4,Qv⟩:=Hd.out.g5;obtain ⟨n0,n1,n2⟩:=Hn.out.c3;obtain ⟨r0,r1,r2,r3,r4⟩:=Hr.out.c5;replace Hb:=az Hb ae;clear ae;by_cases hc0 : 0 < c
         . go_wp2;go_roundw;case rel=>
            refine ⟨b + 1,(k,b,Y),by omega,by omega,by go_num,?_,NH.out,?_,?_,?_⟩
            . have h:=Nn.out;rw [fY.out,if_pos hc0] at h;exact h
            . exact ((((Hr.out.so g 0 zo _).so g 1 zo _).so g 2 zo _).so g 3 zo _).so g 4 zo _
            . exact ((((Hd.out.set 0 _).set 1 _).set 2 _).set 3 _).set 4 _
            . exact ((((Hb.out.sc g 0 zo _).sc g 1 zo _).sc g 2 zo _).sc g 3 zo _).sc g 4 zo _
           case measure=>simp [intOf];omega
         . go_wp2;go_roundw;case rel=>refine ⟨b + 1,(si,sj,sx),by omega,by omega,by go_num,?_,Hs.out,Hr.out,Hd.out,Hb.out⟩;have h:=Nn.out;rw [fY.out,if_neg zo] at h;exact h
           case measure=>simp [intOf];omega
      . obtain rfl : b = L:=by omega
        go_wp2;go_roundw;case rel=>refine ⟨k + 1,s,by omega,by go_num,?_,Hs.out,Hr.out,Hd.out,Hb.out⟩;have h:=Nk.out;rw [Nat.sub_self] at h;exact h
        case measure=>simp [intOf];omega
   . obtain rfl : k = L:=by omega
     rw [Nat.sub_self] at hF;have Xr : Hid (s = F):=hF;obtain ⟨si,sj,sx⟩:=s;have Hr:=ah pr;have Hd:=ah pd;have Hb:=ah pb;clear pr pd pb hF hs;obtain ⟨d0,d1,d2,d3,d4⟩:=Hd.out.c5;obtain ⟨r0,aj,r1,ar,r2,aF,r3,cz,r4,cQ⟩:=Hr.out.g5;go_wp2;clear d0 d1 d2 d3 d4 r0 aj r1 ar r2 aF r3 cz r4 cQ;refine gq (fun w9=>ai w9 (g) 83 [.int .i64 (si : Int),.int .i64 (sj : Int),.bool (au (dN sx)),.string (bs (nt (dN sx).natAbs)),.int .i64 (dE sx)] /\ ai w9 (w.heap.size) 83 [.int .i64 (si : Int),.int .i64 (sj : Int),.bool (au (dN sx)),.string (bs (nt (dN sx).natAbs)),.int .i64 (dE sx)] /\ Bw w w9) ⟨(((((Hd.out.so (w.heap.size) 0 zo _).so (w.heap.size) 1 zo _).so (w.heap.size) 2 zo _).so (w.heap.size) 3 zo _).so (w.heap.size) 4 zo _),(((((Hr.out.set 0 _).set 1 _).set 2 _).set 3 _).set 4 _),(((((Hb.out.sc (w.heap.size) 0 ZS _).sc (w.heap.size) 1 ZS _).sc (w.heap.size) 2 ZS _).sc (w.heap.size) 3 ZS _).sc (w.heap.size) 4 ZS _)⟩ ?_;rintro w9 ⟨qd,qr,ae⟩;replace Hd:=ah qd;clear qd;replace Hr:=ah qr;clear qr;obtain ⟨d0,d1,d2,d3,d4⟩:=Hd.out.c5;obtain ⟨r0,aj,r1,ar,r2,aF,r3,cz,r4,cQ⟩:=Hr.out.g5;replace Hb:=ah ae;clear ae;refine bodyPost_ret (v:=.agg (Ae (si,sj,sx)).toArray) (by simp [results,Tryz.results47,go_sem,r0,r1,r2,r3,r4]) rfl ⟨by rw [<- Xr.out],Hb.out⟩
theorem Tryz.an8 : (Tryz.prog.info? 46).map (fun i=>(i.zero,i.size,i.bytes)) = some (some (.slice none 0 0),1,24):=by kernel_rfl
def dL (r : List Raw) : List Raw:=r.map fun x=>canon (aC x)
theorem Jk (r : List Raw) : (dL r).length = r.length:=by simp [dL]
theorem adM (r : List Raw) : (dL r).flatMap bD = dC (r.map aC):=by rw [sN,List.map_map];rfl
def Own2 (e : TypeId) (w : World) (base : Nat) (R : List (List Dyadic)) (k : Nat) (v : Value) : Prop:=
 ∃ vals : List Value,vals.length = k /\ w.ownsRow base e 1 v k vals /\ ∀ i (h : i < vals.length),∃ a c,vals[i] = .slice a (R.getD i []).length c /\ At w a (dC (R.getD i [])) /\ ∀ b o,a = some ⟨b,o,none⟩ -> some b ≠ v.ownBlock /\ b < w.heap.size
theorem Own2.nil (e : TypeId) (w : World) (base : Nat) (R : List (List Dyadic)) : Own2 e w base R 0 (.slice none 0 0):=
 ⟨[],rfl,World.ownsRow_nil _ _ _ _,fun _ h=>absurd h (Nat.not_lt_zero _)⟩
theorem Own2.below {e : TypeId} {w w' : World} {base k : Nat} {R : List (List Dyadic)} {v : Value} (h : Own2 e w base R k v) (hb : Bw w w') : Own2 e w' base R k v:=by obtain ⟨vals,hl,ho,hi⟩:=h;refine ⟨vals,hl,ownsRow_below ho hb,fun i h=>?_⟩;obtain ⟨a,c,h1,h2,h3⟩:=hi i h;exact ⟨a,c,h1,h2.below hb,fun b o e=>⟨(h3 b o e).1,Nat.lt_of_lt_of_le (h3 b o e).2 hb.size⟩⟩
theorem Own2.push {e : TypeId} {w w' : World} {base k : Nat} {R : List (List Dyadic)} {v v' : Value} {vals : List Value} (hl : vals.length = k) (hi : ∀ i (h : i < vals.length),∃ a c,vals[i] = .slice a (R.getD i []).length c /\ At w a (dC (R.getD i [])) /\ ∀ b o,a = some ⟨b,o,none⟩ -> some b ≠ v.ownBlock /\ b < w.heap.size)
 {a : Option Addr} {c : Nat} (ha : At w a (dC (R.getD k []))) (hab : ∀ b o,a = some ⟨b,o,none⟩ -> some b ≠ v.ownBlock /\ b < w.heap.size)
 (ho : w'.ownsRow base e 1 v' (k + 1) (vals ++ [.slice a (R.getD k []).length c])) (hg : w.grownBy w' v.ownBlock) (fO : v'.ownBlock = v.ownBlock \/ v'.ownBlock = some w.heap.size) : Own2 e w' base R (k + 1) v':=by
 have hne : ∀ b,some b ≠ v.ownBlock -> b < w.heap.size -> some b ≠ v'.ownBlock:=by
  intro b h1 h2;rcases fO with h | h
  . rw [h];exact h1
  . rw [h];intro h3;simp at h3;omega
 refine ⟨_,by simp [hl],ho,fun i h=>?_⟩;by_cases hk : i < vals.length
 . obtain ⟨a1,c1,h1,h2,h3⟩:=hi i hk;refine ⟨a1,c1,by rw [List.getElem_append_left hk];exact h1,h2.grown hg (fun b o e=>(h3 b o e).1),fun b o e=>⟨hne b (h3 b o e).1 (h3 b o e).2,Nat.lt_of_lt_of_le (h3 b o e).2 hg.size⟩⟩
 . have hik : i = k:=by simp at h;omega
   subst hik;refine ⟨a,c,?_,ha.grown hg (fun b o e=>(hab b o e).1),fun b o e=>⟨hne b (hab b o e).1 (hab b o e).2,Nat.lt_of_lt_of_le (hab b o e).2 hg.size⟩⟩;rw [List.getElem_append_right zo];simp [hl]
theorem Fl {W : World} {base : Nat} {e : TypeId} {size : Nat} {a : Option Addr} {n c : Nat} {xs : List Value} (h : W.ownsRow base e size (.slice a n c) n xs) : n <= c:=by
 rcases h.2 with ⟨h1,h2⟩ | ⟨g,cap,cur,h1,_,_,h2,_⟩
 . omega
 . simp at h1;omega
theorem Own2.tbl {e : TypeId} {w : World} {base k : Nat} {R : List (List Raw)} {v : Value} (h : Own2 e w base (R.map fun r=>r.map aC) k v) (hk : R.length = k) : ∃ a c,v = .slice a k c /\ k <= c /\ aY w a (R.map dL):=by
 obtain ⟨vals,hl,ho,hi⟩:=h;obtain ⟨a,c,hv,hat,_⟩:=dA ho;subst hv;refine ⟨a,c,rfl,Fl ho,vals,by simp [hl,hk],hat,fun i h1 h2=>?_⟩;obtain ⟨a1,c1,e1,e2,_⟩:=hi i h2;have hi1 : i < R.length:=by simpa using h1
 have eg : (R.map fun r=>r.map aC).getD i [] = R[i].map aC:=by simp [hi1]
 rw [eg] at e1 e2;refine ⟨a1,c1,?_,?_⟩
 . rw [e1];simp [Jk]
 . rw [List.getElem_map,adM];exact e2
theorem WZ (a : Option Addr) (L cap : Nat) (rows : List (List Raw)) (k0 : Nat) (pa : Option Addr) (pn qi : Nat) (Pp : List Raw) (w : World) (hL : rows.length = L) (JC : L <= 9) (hP : Pp.length = pn) (Rc : pn <= 8) (hrow : ∀ r ∈ rows,r.length <= 8) (ha : aY w a rows) (hp : At w pa (Pp.flatMap bD))
 (hok : ∀ r ∈ rows,∀ x ∈ r,Ok x) (EF : ∀ x ∈ Pp,Ok x) (hT : aB w) (at9 : Int) (sQ : ∀ k : Nat,k < L -> ((k : Int) = at9 ↔ k = k0)) :
 Calls Tryz.prog 48 #[.slice a L cap,.int .i64 at9,.slice pa pn qi] w fun e w'=>∃ a' cap',e = .returned (.slice a' L cap') /\ L <= cap' /\ aY w' a' ((rows.set k0 Pp).map dL) /\ Bw w w':=by
 obtain ⟨i0,hi,hz0,hz1,hz2⟩:=info_parts Tryz.anW;obtain ⟨j0,hj,hy0,hy1,hy2⟩:=info_parts Tryz.an8;obtain ⟨R,hR⟩ : ∃ R,rows.set k0 Pp = R:=⟨_,rfl⟩;obtain ⟨S,hS⟩ : ∃ S,(R.map fun r=>r.map aC) = S:=⟨_,rfl⟩;have Rp : R.length = L:=by rw [<- hR];simp [hL]
 have Ro : ∀ r ∈ R,r.length <= 8:=by
  intro r hr;rw [<- hR] at hr;rcases List.mem_or_eq_of_mem_set hr with h | h
  . exact hrow r h
  . rw [h];omega
 have Rq : ∀ r ∈ R,∀ x ∈ r,Ok x:=by
  intro r hr;rw [<- hR] at hr;rcases List.mem_or_eq_of_mem_set hr with h | h
  . exact hok r h
  . rw [h];exact EF
 have tF : ∀ (W : World) (k : Nat) (hk : k < L),Bw w W -> ∃ b o a1 c1 n1 aq cq,∃ (hk2 : k < R.length),a = some ⟨b,o,none⟩ /\ W.cell? ⟨b,o + k,none⟩ = some (.slice a1 n1 c1) /\ At W aq (R[k].flatMap bD) /\ ((k = k0 /\ aq = pa /\ R[k].length = pn /\ cq = qi) \/ (k ≠ k0 /\ aq = a1 /\ R[k].length = n1 /\ cq = c1)):=by
  intro W k hk hb;obtain ⟨b,o,a1,c1,h1,h2,h3⟩:=(ha.below hb).row k zo;by_cases hkk : k = k0
  . refine ⟨b,o,a1,c1,_,pa,qi,by omega,h1,h2,?_,.inl ⟨hkk,rfl,?_,rfl⟩⟩
    . have : R[k]'zo = Pp:=by simp only [<- hR,hkk,List.getElem_set_self]
      rw [this];exact hp.below hb
    . have : R[k]'zo = Pp:=by simp only [<- hR,hkk,List.getElem_set_self]
      rw [this];exact hP
  . have : R[k]'zo = rows[k]'zo:=by simp only [<- hR];exact List.getElem_set_ne (fun h=>hkk h.symm) _
    refine ⟨b,o,a1,c1,_,a1,c1,by omega,h1,h2,?_,.inr ⟨hkk,rfl,by rw [this],rfl⟩⟩;rw [this];exact h3
 rw [hR];have Hi:=ah hi;have cO:=ah hz0;have cP:=ah hz1;have cE:=ah hz2;have Hj:=ah hj;have jK:=ah hy0;have lQ:=ah hy1;have lR:=ah hy2;have HS:=ah hS;have XJ:=ah Rp;have XI:=ah Ro;have XL:=ah Rq;have Ic:=ah tF;have HT:=ah hT;have NI:=ah sQ;clear hi hz0 hz1 hz2 hj hy0 hy1 hy2 hR hS Rp Ro Rq tF ha hp hT hL hP hrow hok EF sQ;go_enter Tryz.func48,Tryz.ntmps48;have Hb : Hid (Bw w w):=Below.refl _ _;go_wp2_with fail;go_loopw [7,15] (fun s7 x wr=>∃ (k : Nat) (v : Value),k <= L /\ x = .int .i64 (k : Int) /\ v = s7 /\ Own2 46 wr w.heap.size S k v /\ Bw w wr) (fun _ x _=>L - (intOf x).toNat);case atStart=>exact ⟨0,_,Nat.zero_le _,rfl,rfl,Own2.nil _ _ _ _,Hb.out⟩
 case round=>
  clear Hb;obtain ⟨k,v,hk,rfl,rfl,pv,pb⟩:=hrel;by_cases hlt : k < L
  . obtain ⟨b1,o1,a1,c1,n1,aq,cq,hk2,hab,hc1,hat,tv⟩:=Ic.out wr k hlt pb;have kH:=kJ L cap k (k : Int) hab hlt rfl;rw [Nat.mul_one] at kH;obtain ⟨Q,hQ⟩ : ∃ Q,R[k] = Q:=⟨_,rfl⟩;rw [hQ] at hat tv;have JH:=XI.out _ (List.getElem_mem hk2);have JI:=XL.out _ (List.getElem_mem hk2);rw [hQ] at JH JI;obtain ⟨Z,hZ⟩ : ∃ Z,Q.map aC = Z:=⟨_,rfl⟩;have om : S.getD k [] = Z:=by rw [<- HS.out,<- hZ,<- hQ];simp [hk2]
    have hQl : Q.length <= 8:=JH;obtain ⟨n,hn⟩ : ∃ n,Q.length = n:=⟨_,rfl⟩;rw [hn] at hQl tv;have fu:=ah hat;have XH:=ah JI;have HZ:=ah hZ;have rZ:=ah om;have Zp:=ah tv;have Hn:=ah hn;have aR:=ah pb;have dm:=ah pv;clear hat JI hZ om tv hn pb pv hQ hab JH;have gN:=aR.out.size;go_upto_if 22 with fail
    go_cut [9] (fun s9 wx=>s9 = .slice aq n cq /\ wx = wr);case first=>
     rcases Zp.out with ⟨rfl,rfl,rfl,rfl⟩ | ⟨h1,rfl,rfl,rfl⟩
     . obtain rfl:=(NI.out k hlt).2 rfl;go_wp2_with fail;go_meet;exact ⟨rfl,rfl⟩
     . have h3 : ¬ (k : Int) = at9:=fun h=>h1 ((NI.out k hlt).1 h);have h2 : ((k : Int) == at9) = false:=by simpa using h3
       go_wp2_with fail;go_meet;exact ⟨rfl,rfl⟩
    case rest=>
     obtain ⟨rfl,rfl⟩:=hcut;clear kH hc1;go_wp2_with fail;go_loopw [10,26] (fun BW x wr=>∃ (j : Nat) (v2 : Value),j <= n /\ x = .int .i64 (j : Int) /\ v2 = BW /\ wr.ownsRow wc.heap.size 30 3 v2 j (dC (Z.take j)) /\ Bw wc wr) (fun _ x _=>n - (intOf x).toNat);case atStart=>exact ⟨0,_,Nat.zero_le _,rfl,rfl,World.ownsRow_nil _ _ _ _,Below.refl _ _⟩
     case round=>
      obtain ⟨j,v2,hj,rfl,rfl,ho,hb2⟩:=hrel;by_cases bi : j < n
      . have h1 : j < Q.length:=by rw [Hn.out];exact bi
        obtain ⟨s,m,e,hx⟩ : ∃ s m e,Q[j] = (s,m,e):=⟨_,_,_,rfl⟩;have hok:=XH.out _ (List.getElem_mem h1);rw [hx] at hok;obtain ⟨X,hX⟩ : ∃ X,aC (s,m,e) = X:=⟨_,rfl⟩;have bX : Hid (dC (Z.take (j + 1)) = dC (Z.take j) ++ [.bool (au (dN X)),.string (bs (nt (dN X).natAbs)),.int .i64 (dE X)]):=by
         show _ = _
         rw [<- HZ.out,List.take_succ_eq_append_getElem (by simpa using h1),xm];congr 1;simp only [List.getElem_map,hx,hX];rfl
        obtain ⟨b2,o2,gv,p0,p1,p2⟩:=(fu.out.below hb2).num j h1 hx;have oD:=mW n cq j (j : Int) gv bi rfl;have HX:=ah hX;have FU:=ah hok;have Ho:=ah ho;have bS:=ah hb2;have yN:=ah ((HT.out.below aR.out).below hb2);have yA:=hb2.size;have Hp : Hid (bj wr b2 (o2 + j * 3) [.bool s,.string (bs m),.int .i64 e]):=iM p0 p1 p2;clear hX hok ho hb2 hx gv p0 p1 p2;have Hb : Hid (Bw wr wr):=Below.refl _ _;obtain ⟨p0,p1,p2⟩:=Hp.out.w3;have P0:=p0;have P1:=p1;have P2:=p2;obtain ⟨W4,eP⟩ : ∃ W4,(wr.alloc (.cells #[.bool s,.string (bs m),.int .i64 e] 30)) = W4:=⟨_,rfl⟩;have ae : Bw wr W4:=by rw [<- eP];exact zl
        clear p0 p1 p2;replace Hp:=kW Hp ae;have Hc : Hid (ai W4 (wr.heap.size) 30 [.bool s,.string (bs m),.int .i64 e]):=by rw [<- eP];exact ai.newAt _ _ _ zm
        obtain ⟨p0,p1,p2⟩:=Hp.out.w3;obtain ⟨c0,c1,c2⟩:=Hc.out.c3;replace Hb:=az Hb ae;clear ae;have HT : Hid (aB W4):=yN.out.below Hb.out;go_wp2_with fail;refine (nX s m e X HX.out _ FU.out HT.out).mono ?_;rintro e w5 ⟨rfl,ae⟩;clear p0 p1 p2 c0 c1 c2;replace Hp:=kW Hp ae;replace Hc:=kB Hc ae;replace HT:=kT HT ae;obtain ⟨p0,p1,p2⟩:=Hp.out.w3;obtain ⟨c0,c1,c2⟩:=Hc.out.c3;replace Hb:=az Hb ae;clear ae;have agz:=Hc.out.lt;obtain ⟨W6,eQ⟩ : ∃ W6,(w5.alloc (.cells #[.bool (au (dN X)),.string (bs (nt (dN X).natAbs)),.int .i64 (dE X)] 30)) = W6:=⟨_,rfl⟩;have ae : Bw w5 W6:=by rw [<- eQ];exact zl
        clear p0 p1 p2;replace Hp:=kW Hp ae;clear c0 c1 c2;replace Hc:=kB Hc ae;replace HT:=kT HT ae;have Hd : Hid (ai W6 (w5.heap.size) 30 [.bool (au (dN X)),.string (bs (nt (dN X).natAbs)),.int .i64 (dE X)]):=by rw [<- eQ];exact ai.newAt _ _ _ zm
        obtain ⟨p0,p1,p2⟩:=Hp.out.w3;obtain ⟨c0,c1,c2⟩:=Hc.out.c3;obtain ⟨d0,d1,d2⟩:=Hd.out.c3;replace Hb:=az Hb ae;clear ae;have cK:=ownsRow_below Ho.out Hb.out;have iW:=Hb.out.size;have hnews:=gb Hd.out;clear d0 d1 d2;go_wp2_with (at_builtin;refine wpList_append_own_at _ rfl _ _ 46 rfl wc.heap.size 30 i0 _ 3 32 Tryz.underlying46 Hi.out cO.out cP.out cE.out rfl zd v2 j (dC (Z.take j)) rfl cK ⟨w5.heap.size,0,none⟩ 1 1 [.bool (au (dN X)),.string (bs (nt (dN X).natAbs)),.int .i64 (dE X)] rfl rfl hnews zy zx zo zo ?_;intro v' w7 dx eT _ _;obtain ⟨g',mL,rfl⟩:=ownsRow_succ dx);go_roundw;case rel=>
         refine ⟨j + 1,_,by omega,by go_num,rfl,?_,?_⟩
         . rw [bX.out];exact dx
         . exact (aJ bS.out Hb.out).grown eT zo (fun j e=>cL cK j e)
        case measure=>simp [intOf];omega
      . obtain rfl : j = n:=by omega
        have lw : Z.take j = Z:=List.take_of_length_le (by rw [<- HZ.out];simp [Hn.out]);rw [lw] at ho;obtain ⟨a2,cap2,rfl,ov,gv⟩:=dA ho;have fU:=ho.lt;obtain ⟨vals,hvl,hov,iX⟩:=dm.out.below hb2;have Hb : Hid (Bw wr wr):=Below.refl _ _;obtain ⟨_,_,oH,_⟩:=dm.out;have hvs:=oH.lt;have hin : ∀ b o,a2 = some ⟨b,o,none⟩ -> some b ≠ v.ownBlock /\ b < wr.heap.size:=by intro b o e;subst e;have h1:=fU b rfl;refine ⟨fun h2=>?_,h1.2⟩;have h3:=hvs b h2.symm;omega
        have nI:=ah hin;have yR:=ah ov;have lO:=ah hvl;have qW:=ah iX;have cw:=ah hov;have bS:=ah hb2;have yA:=hb2.size;clear hin ov hvl iX hov oH hvs hb2 gv fU lw ho bi hj;obtain ⟨W6,eQ⟩ : ∃ W6,(wr.alloc (.cells #[.slice a2 j cap2] 46)) = W6:=⟨_,rfl⟩;have ae : Bw wr W6:=by rw [<- eQ];exact zl
        have Hd : Hid (ai W6 (wr.heap.size) 46 [.slice a2 j cap2]):=by rw [<- eQ];exact ai.newAt _ _ _ zm
        have d0:=Hd.out.c1;replace Hb:=az Hb ae;clear ae;have cK:=ownsRow_below cw.out Hb.out;have iW:=Hb.out.size;have hnews : ∀ i u,([.slice a2 j cap2] : List Value)[i]? = some u -> W6.cell? ((⟨wr.heap.size,0,none⟩ : Addr).add i) = some u:=gb Hd.out;clear d0;go_wp2_with (at_builtin;refine wpList_append_own_at _ rfl _ _ 23 rfl w.heap.size 46 j0 _ 1 24 Tryz.underlying23 Hj.out jK.out lQ.out lR.out rfl zd v k vals rfl cK ⟨wr.heap.size,0,none⟩ 1 1 [.slice a2 j cap2] rfl rfl hnews zy zx zo zo ?_;intro v' w7 dx eT _ fO;obtain ⟨g',mL,rfl⟩:=ownsRow_succ dx);go_roundw;case rel=>
         refine ⟨k + 1,_,by omega,by go_num,rfl,?_,?_⟩
         . refine Own2.push (a:=a2) (c:=cap2) lO.out (w:=W6) ?_ ?_ ?_ ?_ eT fO
           . intro i h;obtain ⟨a,c,h1,h2,h3⟩:=qW.out i h;exact ⟨a,c,h1,h2.below Hb.out,fun b o e=>⟨(h3 b o e).1,Nat.lt_of_lt_of_le (h3 b o e).2 iW⟩⟩
           . rw [rZ.out];exact yR.out.below Hb.out
           . exact fun b o e=>⟨(nI.out b o e).1,Nat.lt_of_lt_of_le (nI.out b o e).2 iW⟩
           . rw [rZ.out,<- HZ.out,List.length_map,Hn.out];exact dx
         . exact (aJ (aJ aR.out bS.out) Hb.out).grown eT zo (fun j e=>cL cK j e)
        case measure=>simp [intOf];omega
  . obtain rfl : k = L:=by omega
    have hlen : R.length = k:=XJ.out;rw [<- HS.out] at pv;obtain ⟨a2,c2,rfl,hcl,jx⟩:=Own2.tbl pv hlen;have pk:=ah jx;have aR:=ah pb;clear pv pb jx hlen;go_wp2;refine bodyPost_ret (results_tmp rfl _ _ _) rfl ⟨a2,c2,rfl,hcl,pk.out,aR.out⟩
theorem akq (a : Option Addr) (L cap : Nat) (rows : List (List Raw)) (k0 : Nat) (pa : Option Addr) (pn qi : Nat) (Pp : List Raw) (w : World) (hL : rows.length = L) (JC : L <= 9) (hP : Pp.length = pn) (Rc : pn <= 8) (hrow : ∀ r ∈ rows,r.length <= 8) (ha : aY w a rows) (hp : At w pa (Pp.flatMap bD))
 (hok : ∀ r ∈ rows,∀ x ∈ r,Ok x) (EF : ∀ x ∈ Pp,Ok x) (hT : aB w) :
 Calls Tryz.prog 48 #[.slice a L cap,.int .i64 (k0 : Int),.slice pa pn qi] w fun e w'=>∃ a' cap',e = .returned (.slice a' L cap') /\ L <= cap' /\ aY w' a' ((rows.set k0 Pp).map dL) /\ Bw w w':=
 WZ a L cap rows k0 pa pn qi Pp w hL JC hP Rc hrow ha hp hok EF hT _ (fun k _=>by omega)
theorem ES (a : Option Addr) (L cap n : Nat) (rows : List (List Raw)) (B : Nat) (w : World) (hL : rows.length = L) (hv : gD rows = n) (hn : 1 <= n) (ha : aY w a rows)
 (hfit : ∀ r ∈ rows,∀ c ∈ r,Fit B c) (hB : B <= 10000000) (hT : aB w) :
 Calls Tryz.prog 13 #[.slice a L cap] w fun e w'=>e = .returned (.tuple #[.int .i64 ((dh (cH rows n) L).1 : Int),.int .i64 ((dh (cH rows n) L).2.1 : Int),bJ (dh (cH rows n) L).2.2,.int .i64 0]) /\ Bw w w':=by
 obtain ⟨c1,c2,c3,c4⟩:=Cf hv zo;have hvars:=fun W=>fun (h : aY W a rows)=>yG a L cap rows W hL zo h;have vt:=fun W=>fun (h : aY W a rows) (hT : aB W)=>agq a L cap n rows B W hL zo zo zo (fun r hr=>by have:=c4 r hr;omega) h hfit hB hT;rw [hv] at hvars;obtain ⟨⟨i,j,X⟩,hF⟩ : ∃ F,dh (cH rows n) L = F:=⟨_,rfl⟩;simp only [hF] at vt;rw [hF];have Im:=ah hvars;have GH:=ah vt;have Ha:=ah ha;have HT:=ah hT;have h0 : ((n : Int) == 0) = false:=by simp;omega
 have h0' : ¬ (n : Int) = 0:=by omega
 clear hvars vt ha hT hF hfit hv c1 c2 c3 c4 hL;obtain ⟨W,aL⟩ : ∃ W,(w.alloc (.cells #[.bool false,.string ⟨#[]⟩,.int .i64 0] 30)) = W:=⟨_,rfl⟩;have Hb : Hid (Bw w W):=by rw [<- aL];exact zl
 have Hr : Hid (ai W (w.heap.size) 30 [.bool false,.string ⟨#[]⟩,.int .i64 0]):=by rw [<- aL];exact ai.newAt _ _ _ zm
 obtain ⟨r0,aj,r1,ar,r2,aF⟩:=Hr.out.g3;go_enter Tryz.func13,Tryz.ntmps13;go_wp2_with fail;refine (Im.out _ (Ha.out.below Hb.out)).mono ?_;rintro e w1 ⟨rfl,ae⟩;clear r0 aj r1 ar r2 aF;replace Hr:=kB Hr ae;obtain ⟨r0,aj,r1,ar,r2,aF⟩:=Hr.out.g3;replace Hb:=az Hb ae;clear ae;go_wp2_with fail;refine (GH.out _ (Ha.out.below Hb.out) (HT.out.below Hb.out)).mono ?_;rintro e w2 ⟨rfl,ae⟩;clear r0 aj r1 ar r2 aF;replace Hr:=kB Hr ae;obtain ⟨r0,aj,r1,ar,r2,aF⟩:=Hr.out.g3;replace Hb:=az Hb ae;clear ae;have amX:=Hr.out.lt;obtain ⟨w3,Ry⟩ : ∃ w3,(w2.alloc (.cells #[.int .i64 (i : Int),.int .i64 (j : Int),.bool (au (dN X)),.string (bs (nt (dN X).natAbs)),.int .i64 (dE X)] 83)) = w3:=⟨_,rfl⟩;have ae : Bw w2 w3:=by rw [<- Ry];exact zl
 clear r0 aj r1 ar r2 aF;replace Hr:=kB Hr ae;have Hx : Hid (ai w3 (w2.heap.size) 83 [.int .i64 (i : Int),.int .i64 (j : Int),.bool (au (dN X)),.string (bs (nt (dN X).natAbs)),.int .i64 (dE X)]):=by rw [<- Ry];exact ai.newAt _ _ _ zm
 obtain ⟨r0,aj,r1,ar,r2,aF⟩:=Hr.out.g3;obtain ⟨x0,x1,x2,x3,x4⟩:=Hx.out.c5;replace Hb:=az Hb ae;clear ae;go_wp2_with fail;refine bE (fun w'=>w'.cell? ⟨w2.heap.size,0,none⟩ = some (.int .i64 (i : Int)) /\ w'.cell? ⟨w2.heap.size,1,none⟩ = some (.int .i64 (j : Int)) /\ w'.cell? ⟨w2.heap.size,2,none⟩ = some (.bool (au (dN X))) /\ w'.cell? ⟨w2.heap.size,3,none⟩ = some (.string (bs (nt (dN X).natAbs))) /\ w'.cell? ⟨w2.heap.size,4,none⟩ = some (.int .i64 (dE X))) (fun i=>Nat.blt i 10) [(0,true),(1,true),(2,true),(3,true),(4,true),(5,true),(6,true),(7,true),(8,true),(9,true),(10,false),(11,false)] zk zk rfl zk zc ⟨x0,x1,x2,x3,x4⟩ ?_;iterate 10 (refine pT rfl rfl ?_ (by intro w' ⟨q0,q1,q2,q3,q4⟩;go_simp;try with_reducible rfl);try simp only [UU])
 refine aI rfl rfl (fun K hK=>?_);go_simp;refine hK _ _ (fun h=>absurd h zd) ?_;clear hK K;try simp only [UU]
 clear r0 aj r1 ar r2 aF x0 x1 x2 x3 x4;refine bG (fun w4=>ai w4 (w.heap.size) 30 [.bool (au (dN X)),.string (bs (nt (dN X).natAbs)),.int .i64 (dE X)] /\ ai w4 (w2.heap.size) 83 [.int .i64 (i : Int),.int .i64 (j : Int),.bool (au (dN X)),.string (bs (nt (dN X).natAbs)),.int .i64 (dE X)] /\ Bw w w4) ⟨(((Hr.out.set 0 _).set 1 _).set 2 _),(((Hx.out.so (w.heap.size) 0 zo _).so (w.heap.size) 1 zo _).so (w.heap.size) 2 zo _),by first | exact (((Hb.out.sc (w.heap.size) 0 ZS _).sc (w.heap.size) 1 ZS _).sc (w.heap.size) 2 ZS _) | exact Below.drew (((Hb.out.sc (w.heap.size) 0 ZS _).sc (w.heap.size) 1 ZS _).sc (w.heap.size) 2 ZS _)⟩ ?_;rintro w4 ⟨qr,qx,ae⟩;replace Hr:=ah qr;clear qr;replace Hx:=ah qx;clear qx;obtain ⟨r0,aj,r1,ar,r2,aF⟩:=Hr.out.g3;obtain ⟨x0,x1,x2,x3,x4⟩:=Hx.out.c5;replace Hb:=ah ae;clear ae;refine aI rfl rfl (fun K hK=>?_);go_simp;refine hK _ _ (fun h=>absurd h zd) ?_;clear hK K;try simp only [UU]
 simp only [aV];go_wp2;refine bodyPost_ret (v:=.tuple #[.int .i64 (i : Int),.int .i64 (j : Int),bJ X,.int .i64 0]) (by simp [results,Tryz.results13,go_sem,r0,r1,r2]) rfl ⟨rfl,?_⟩;(repeat first | exact Hb.out | (refine Below.setCell ?_ (by have:=Hb.out.size;first | (dsimp only;omega) | (show _ <= _;omega) | (simp<;>omega)) _) | (refine Below.alloc ?_ zt _) | refine Below.drew ?_)
theorem agr (a : Option Addr) (L cap : Nat) (rows : List (List Raw)) (w : World) (hL : rows.length = L) (hl : L <= 1099511627776) (hv : gD rows = 0) (ha : aY w a rows) :
 Calls Tryz.prog 13 #[.slice a L cap] w fun e w'=>e = .returned (.tuple #[.int .i64 0,.int .i64 0,.agg #[.bool false,.string ⟨#[]⟩,.int .i64 0],.int .i64 1]) /\ Bw w w':=by
 have hvars:=fun W=>fun (h : aY W a rows)=>yG a L cap rows W hL hl h;rw [hv] at hvars;have Im:=ah hvars;have Ha:=ah ha;clear hvars ha hv hL hl;obtain ⟨W,aL⟩ : ∃ W,(w.alloc (.cells #[.bool false,.string ⟨#[]⟩,.int .i64 0] 30)) = W:=⟨_,rfl⟩;have Hb : Hid (Bw w W):=by rw [<- aL];exact zl
 have Hr : Hid (ai W (w.heap.size) 30 [.bool false,.string ⟨#[]⟩,.int .i64 0]):=by rw [<- aL];exact ai.newAt _ _ _ zm
 obtain ⟨r0,aj,r1,ar,r2,aF⟩:=Hr.out.g3;go_enter Tryz.func13,Tryz.ntmps13;go_wp2_with fail;refine (Im.out _ (Ha.out.below Hb.out)).mono ?_;rintro e w1 ⟨rfl,ae⟩;clear r0 aj r1 ar r2 aF;replace Hr:=kB Hr ae;obtain ⟨r0,aj,r1,ar,r2,aF⟩:=Hr.out.g3;replace Hb:=az Hb ae;clear ae;go_wp2;clear r0 aj r1 ar r2 aF;refine gq (fun w9=>ai w9 (w.heap.size) 30 [.bool false,.string ⟨#[]⟩,.int .i64 0] /\ Bw w w9) ⟨(((Hr.out.set 0 _).set 1 _).set 2 _),(((Hb.out.sc (w.heap.size) 0 ZS _).sc (w.heap.size) 1 ZS _).sc (w.heap.size) 2 ZS _)⟩ ?_;rintro w9 ⟨qr,ae⟩;replace Hr:=ah qr;clear qr;obtain ⟨r0,aj,r1,ar,r2,aF⟩:=Hr.out.g3;replace Hb:=ah ae;clear ae;refine bodyPost_ret (v:=.tuple #[.int .i64 0,.int .i64 0,.agg #[.bool false,.string ⟨#[]⟩,.int .i64 0],.int .i64 1]) (by simp [results,Tryz.results13,go_sem,r0,r1,r2]) rfl ⟨rfl,Hb.out⟩
def midD (p q : List Raw) : List Dyadic:=List.zipWith (fun x y=>(aC x + aC y) * hp 1) p q
def jX (p q : List Raw) : List Raw:=(midD p q).map canon
theorem Vd {p q : List Raw} (h : p.length = q.length) : (midD p q).length = p.length:=by simp [midD,h]
theorem Vf {p q : List Raw} (h : p.length = q.length) : (jX p q).length = p.length:=by simp [jX,Vd h]
theorem agS (p q : List Raw) (k : Nat) (h : k < p.length) (h' : k < q.length) : (midD p q).take (k + 1) = (midD p q).take k ++ [(aC p[k] + aC q[k]) * hp 1]:=by unfold midD;rw [List.take_succ_eq_append_getElem zi];simp
theorem Ve {B : Nat} {p q : List Raw} (hp' : ∀ x ∈ p,Fit B x) (hq : ∀ x ∈ q,Fit B x) (hB : B <= 10000000) : ∀ x ∈ jX p q,Fit (B + 3) x:=by
 intro x hx;unfold jX midD at hx;obtain ⟨d,hd,rfl⟩:=List.mem_map.1 hx;obtain ⟨i,hi,rfl⟩:=List.mem_iff_getElem.1 hd;have hi1 : i < p.length /\ i < q.length:=by simp at hi;omega
 rw [List.getElem_zipWith];have h1:=Sm.mul (Sm.add (hp' _ (List.getElem_mem hi1.1)).2 (hq _ (List.getElem_mem hi1.2)).2) (ae8 1);exact (h1.mono (show B + 1 + (1 + 1) <= B + 3 by omega)).fit zo
theorem RL (a : Option Addr) (L cap n : Nat) (rows : List (List Raw)) (B : Nat) (i j : Nat) (Y : Dyadic) (w : World) (hL : rows.length = L) (hv : gD rows = n) (hn : 1 <= n) (ha : aY w a rows)
 (hfit : ∀ r ∈ rows,∀ c ∈ r,Fit B c) (hB : B <= 10000000) (hT : aB w) (hF : dh (cH rows n) L = (i,j,Y)) :
 Calls Tryz.prog 14 #[.slice a L cap] w fun e w'=>∃ a1 c1 a2 c2,e = .returned (.tuple #[.slice a1 L c1,.slice a2 L c2,.int .i64 0]) /\ L <= c1 /\ L <= c2 /\
  aY w' a1 ((rows.set j (jX (rows.getD i []) (rows.getD j []))).map dL) /\ aY w' a2 ((rows.set i (jX (rows.getD i []) (rows.getD j []))).map dL) /\ Bw w w':=by
 obtain ⟨i0,hi,hz0,hz1,hz2⟩:=info_parts Tryz.anW;obtain ⟨c1,c2,c3,c4⟩:=Cf hv zo;have vt:=fun W=>fun (h : aY W a rows) (hT : aB W)=>ES a L cap n rows B W hL hv hn h hfit hB hT;have hinv:=vU (cH rows n) L zo;rw [hF] at hinv;simp only [hF] at vt;obtain ⟨hij,Ew,hY⟩:=hinv;dsimp only at hij Ew hY;have SJ : i < L:=by omega
 obtain ⟨p,hp'⟩ : ∃ p,rows.getD i [] = p:=⟨_,rfl⟩;obtain ⟨q,hq'⟩ : ∃ q,rows.getD j [] = q:=⟨_,rfl⟩;have ep : rows[i]'zo = p:=by rw [<- hp'];simp [hL,SJ]
 have eq : rows[j]'zo = q:=by rw [<- hq'];simp [hL,Ew]
 have hpl : p.length = n:=by have:=c4 p (by rw [<- ep];exact List.getElem_mem _);omega
 have KP : q.length = n:=by have:=c4 q (by rw [<- eq];exact List.getElem_mem _);omega
 have iu : ∀ x ∈ p,Fit B x:=by rw [<- ep];exact hfit _ (List.getElem_mem _)
 have KO : ∀ x ∈ q,Fit B x:=by rw [<- eq];exact hfit _ (List.getElem_mem _)
 rw [hp',hq'];have vM:=fun (k : Nat) (pa : Option Addr) (pc : Nat) (W : World) (h1 : aY W a rows) (h2 : At W pa (dC (midD p q))) (h3 : aB W)=>akq a L cap rows k pa n pc (jX p q) W hL zo (by rw [Vf zo];exact hpl) zo (fun r hr=>by have:=c4 r hr;omega) h1 (by unfold jX;rw [<- sN];exact h2) (fun r hr x hx=>(hfit r hr x hx).1) (fun x hx=>(Ve iu KO hB x hx).1) h3;obtain ⟨A1,Jp⟩ : ∃ A1,(rows.set j (jX p q)).map dL = A1:=⟨_,rfl⟩;obtain ⟨A2,QC⟩ : ∃ A2,(rows.set i (jX p q)).map dL = A2:=⟨_,rfl⟩;have tJ:=vM j;have pP:=vM i;rw [Jp] at tJ ⊢;rw [QC] at pP ⊢;have hrow:=fun (W : World) (h : aY W a rows)=>h.row i zo;have hrow2:=fun (W : World) (h : aY W a rows)=>h.row j zo;simp only [ep,hpl] at hrow;simp only [eq,KP] at hrow2;obtain ⟨Z,hZ⟩ : ∃ Z,midD p q = Z:=⟨_,rfl⟩;have hst : ∀ k (h : k < p.length) (h' : k < q.length),Z.take (k + 1) = Z.take k ++ [(aC p[k] + aC q[k]) * hp 1]:=by rw [<- hZ];exact agS p q
 have Ax : Z.length = n:=by rw [<- hZ,Vd zo,hpl]
 rw [hZ] at pP tJ;have Hi:=ah hi;have cO:=ah hz0;have cP:=ah hz1;have cE:=ah hz2;have GH:=ah vt;have Ha:=ah ha;have HT:=ah hT;have Hwi:=ah pP;have Hwj:=ah tJ;have uI:=ah hrow;have ZQ:=ah hrow2;have bX:=ah hst;have sf:=ah Ax;have qV:=ah hpl;have ZO:=ah KP;have pj:=ah iu;have ZN:=ah KO;have pM : n <= 8:=by omega
 clear hi hz0 hz1 hz2 vt ha hT pP tJ vM hrow hrow2 hst Ax hpl KP iu KO ep eq hp' hq' hY hF hfit hv c1 c2 c3 c4 hL hZ Jp QC;have Hb : Hid (Bw w w):=Below.refl _ _;go_enter Tryz.func14,Tryz.ntmps14;go_wp2_with fail;refine (GH.out _ (Ha.out.below Hb.out) (HT.out.below Hb.out)).mono ?_;rintro e w1 ⟨rfl,ae⟩;replace Hb:=az Hb ae;clear ae;obtain ⟨w2,Rx⟩ : ∃ w2,(w1.alloc (.cells #[.bool (au (dN Y)),.string (bs (nt (dN Y).natAbs)),.int .i64 (dE Y)] 30)) = w2:=⟨_,rfl⟩;have ae : Bw w1 w2:=by rw [<- Rx];exact zl
 have Hx : Hid (ai w2 (w1.heap.size) 30 [.bool (au (dN Y)),.string (bs (nt (dN Y).natAbs)),.int .i64 (dE Y)]):=by rw [<- Rx];exact ai.newAt _ _ _ zm
 obtain ⟨x0,x1,x2⟩:=Hx.out.c3;replace Hb:=az Hb ae;clear ae;obtain ⟨b0,o0,a1,c1,iq,hc0,ir⟩:=uI.out w2 (Ha.out.below Hb.out);obtain ⟨iz,jB,a2,c2,eI,hc1,jP⟩:=ZQ.out w2 (Ha.out.below Hb.out);obtain ⟨rfl,rfl⟩ : iz = b0 /\ jB = o0:=by rw [iq] at eI;simp at eI;exact ⟨eI.1.symm,eI.2.symm⟩
 clear eI;have xU:=kJ L cap i (i : Int) iq SJ rfl;have vQ:=kJ L cap j (j : Int) iq Ew rfl;rw [Nat.mul_one] at xU vQ;have sw:=ah hc0;have Ye:=ah hc1;have iw:=ah ir;have kU:=ah jP;have jF:=ah iq;clear hc1 ir jP iq;have yA:=Hb.out.size;go_wp2_with fail;go_loopw [8,25] (fun s8 x wr=>∃ (k : Nat) (v : Value),k <= n /\ x = .int .i64 (k : Int) /\ v = s8 /\ wr.ownsRow w2.heap.size 30 3 v k (dC (Z.take k)) /\ Bw w2 wr) (fun _ x _=>n - (intOf x).toNat);case atStart=>exact ⟨0,_,Nat.zero_le _,rfl,rfl,World.ownsRow_nil _ _ _ _,Below.refl _ _⟩
 case round=>
  clear hc0 x0 x1 x2;obtain ⟨k,v,hk,rfl,rfl,pv,pb⟩:=hrel;by_cases hlt : k < n
  . have k1 : k < p.length:=by rw [qV.out];exact hlt
    have k2 : k < q.length:=by rw [ZO.out];exact hlt
    obtain ⟨sp,mp,ep,gA⟩ : ∃ s m e,p[k] = (s,m,e):=⟨_,_,_,rfl⟩;obtain ⟨sq,mq,eq,mV⟩ : ∃ s m e,q[k] = (s,m,e):=⟨_,_,_,rfl⟩;have eJ:=pj.out _ (List.getElem_mem k1);have mf:=ZN.out _ (List.getElem_mem k2);have hst:=bX.out k k1 k2;rw [gA] at eJ hst;rw [mV] at mf hst;obtain ⟨D,hD⟩ : ∃ D,aC (sp,mp,ep) + aC (sq,mq,eq) = D:=⟨_,rfl⟩;obtain ⟨X,hX⟩ : ∃ X,D * hp 1 = X:=⟨_,rfl⟩;rw [hD,hX] at hst;have kC : Sm (B + 1) D:=by rw [<- hD];exact Sm.add eJ.2 mf.2
    have Xn : Hid (Ok (au (dN D),nt (dN D).natAbs,dE D)):=(kC.fit zo).1;have HX : Hid (aC (au (dN D),nt (dN D).natAbs,dE D + -1) = X):=by show _ = _;rw [<- hX];exact ajj D 1
    have nO : Hid (dC (Z.take (k + 1)) = dC (Z.take k) ++ [.bool (au (dN X)),.string (bs (nt (dN X).natAbs)),.int .i64 (dE X)]):=by
     show _ = _
     rw [hst,xm];rfl
    obtain ⟨b1,o1,eI,p0,p1,p2⟩:=(iw.out.below pb).num k k1 gA;obtain ⟨b2,o2,gv,q0,q1,q2⟩:=(kU.out.below pb).num k k2 mV;have kH:=mW n c1 k (k : Int) eI hlt rfl;have oD:=mW n c2 k (k : Int) gv hlt rfl;have jV : b1 < w2.heap.size:=(by subst eI;exact iw.out.lt (by intro h0;have:=congrArg List.length h0;rw [jr bD 3 (fun _=>rfl)] at this;simp at this;omega));have iI : b2 < w2.heap.size:=(by subst gv;exact kU.out.lt (by intro h0;have:=congrArg List.length h0;rw [jr bD 3 (fun _=>rfl)] at this;simp at this;omega));have vS : iz < w2.heap.size:=World.block_lt_of_cell? w2 _ sw.out;have Hu : Hid (bj wr iz (jB + i) [.slice a1 n c1]):=fun j hj=>by
     obtain rfl : j = 0:=by simp at hj;omega
     exact cell_later pb sw.out
    have Hv : Hid (bj wr iz (jB + j) [.slice a2 n c2]):=fun j hj=>by
     obtain rfl : j = 0:=by simp at hj;omega
     exact cell_later pb Ye.out
    have Hp : Hid (bj wr b1 (o1 + k * 3) [.bool sp,.string (bs mp),.int .i64 ep]):=iM p0 p1 p2;have Hq : Hid (bj wr b2 (o2 + k * 3) [.bool sq,.string (bs mq),.int .i64 eq]):=iM q0 q1 q2;have kX:=ah eJ;have wN:=ah mf;have HD:=ah hD;have dm:=ah pv;have uz:=ah pb;have cm:=ah ((HT.out.below Hb.out).below pb);have kV:=Hb;have yC:=pb.size;clear Hb pv pb eJ mf hD hX hst kC gA mV eI gv p0 p1 p2 q0 q1 q2;have Hb : Hid (Bw wr wr):=Below.refl _ _;go_wp2_with fail;have u0:=Hu.out.w1;have v0:=Hv.out.w1;obtain ⟨p0,p1,p2⟩:=Hp.out.w3;obtain ⟨q0,q1,q2⟩:=Hq.out.w3;refine bE (fun w'=>w'.cell? ⟨iz,jB + i,none⟩ = some (.slice a1 n c1) /\ w'.cell? ⟨iz,jB + j,none⟩ = some (.slice a2 n c2) /\ w'.cell? ⟨b1,o1 + k * 3,none⟩ = some (.bool sp) /\ w'.cell? ⟨b1,o1 + k * 3 + 1,none⟩ = some (.string (bs mp)) /\ w'.cell? ⟨b1,o1 + k * 3 + 2,none⟩ = some (.int .i64 ep) /\ w'.cell? ⟨b2,o2 + k * 3,none⟩ = some (.bool sq) /\ w'.cell? ⟨b2,o2 + k * 3 + 1,none⟩ = some (.string (bs mq)) /\ w'.cell? ⟨b2,o2 + k * 3 + 2,none⟩ = some (.int .i64 eq)) (fun i=>Nat.blt i 100000) [(0,true),(1,true),(2,true),(3,true),(4,true),(5,true),(6,true),(7,true),(8,true),(9,true),(10,true),(11,true),(12,true),(13,true),(14,true),(15,false),(16,false),(17,false),(18,false),(19,false),(20,true)] zk zk rfl zk zc ⟨u0,v0,p0,p1,p2,q0,q1,q2⟩ ?_;iterate 15 (refine pT rfl rfl ?_ (by intro w' ⟨q0,q1,q2,q3,q4,q5,q6,q7⟩;go_simp;try with_reducible rfl);try simp only [UU])
    refine aI rfl rfl (fun K hK=>?_);go_simp;refine hK _ _ (fun _=>⟨aH u0,aH v0,aH p0,aH p1,aH p2,aH q0,aH q1,aH q2⟩) ?_;clear hK K;try simp only [UU]
    refine bG (fun w4=>ai w4 (wr.heap.size) 30 [.bool sp,.string (bs mp),.int .i64 ep,.bool sq,.string (bs mq),.int .i64 eq] /\ Bw wr w4) (by first | exact dP | exact dQ) ?_;rintro w4 ⟨qe,ae⟩;clear u0 v0 p0 p1 p2 q0 q1 q2;replace Hu:=kW Hu ae;replace Hv:=kW Hv ae;replace Hp:=kW Hp ae;replace Hq:=kW Hq ae;have He:=ah qe;clear qe;have u0:=Hu.out.w1;have v0:=Hv.out.w1;obtain ⟨p0,p1,p2⟩:=Hp.out.w3;obtain ⟨q0,q1,q2⟩:=Hq.out.w3;obtain ⟨e0,e1,e2,e3,e4,e5⟩:=He.out.c6;replace Hb:=az Hb ae;clear ae;refine aI rfl rfl (fun K hK=>?_);go_simp;with_reducible refine (Ab sp mp ep sq mq eq D B HD.out wr.heap.size 2 30 _ kX.out wN.out zo He.out (by first | exact (cm.out.below Hb.out) | exact aB.drew (cm.out.below Hb.out) | exact aB.alloc (cm.out.below Hb.out) _ | exact aB.drew (aB.alloc (cm.out.below Hb.out) _) | exact aB.alloc (aB.drew (cm.out.below Hb.out)) _)).mono ?_
    rintro e w5 ⟨rfl,hq⟩;have ae : Bw w4 w5:=by first | exact hq | exact aN hq
    clear u0 v0 p0 p1 p2 q0 q1 q2 e0 e1 e2 e3 e4 e5;replace Hu:=kW Hu ae;replace Hv:=kW Hv ae;replace Hp:=kW Hp ae;replace Hq:=kW Hq ae;replace He:=kB He ae;have u0:=Hu.out.w1;have v0:=Hv.out.w1;obtain ⟨p0,p1,p2⟩:=Hp.out.w3;obtain ⟨q0,q1,q2⟩:=Hq.out.w3;obtain ⟨e0,e1,e2,e3,e4,e5⟩:=He.out.c6;replace Hb:=az Hb ae;clear ae;refine hK _ _ (fun _=>⟨u0,v0,p0,p1,p2,q0,q1,q2⟩) ?_;clear hK K;try simp only [UU]
    refine aI rfl rfl (fun K hK=>?_);go_simp;with_reducible refine (Wo (au (dN D)) (nt (dN D).natAbs) (dE D) (-1) X HX.out _ Xn.out zd (by first | exact (cm.out.below Hb.out) | exact aB.drew (cm.out.below Hb.out) | exact aB.alloc (cm.out.below Hb.out) _ | exact aB.drew (aB.alloc (cm.out.below Hb.out) _) | exact aB.alloc (aB.drew (cm.out.below Hb.out)) _)).mono ?_
    rintro e w6 ⟨rfl,hq⟩;have ae : Bw w5 w6:=by first | exact hq | exact aN hq
    clear u0 v0 p0 p1 p2 q0 q1 q2 e0 e1 e2 e3 e4 e5;replace Hu:=kW Hu ae;replace Hv:=kW Hv ae;replace Hp:=kW Hp ae;replace Hq:=kW Hq ae;replace He:=kB He ae;have u0:=Hu.out.w1;have v0:=Hv.out.w1;obtain ⟨p0,p1,p2⟩:=Hp.out.w3;obtain ⟨q0,q1,q2⟩:=Hq.out.w3;obtain ⟨e0,e1,e2,e3,e4,e5⟩:=He.out.c6;replace Hb:=az Hb ae;clear ae;refine hK _ _ (fun _=>⟨u0,v0,p0,p1,p2,q0,q1,q2⟩) ?_;clear hK K;try simp only [UU]
    refine aI rfl rfl (fun K hK=>?_);go_simp;refine hK _ _ (fun _=>⟨aH u0,aH v0,aH p0,aH p1,aH p2,aH q0,aH q1,aH q2⟩) ?_;clear hK K;try simp only [UU]
    refine bG (fun w7=>ai w7 (w6.heap.size) 30 [.bool (au (dN X)),.string (bs (nt (dN X).natAbs)),.int .i64 (dE X)] /\ Bw w6 w7) (by first | exact dP | exact dQ) ?_;rintro w7 ⟨qc,ae⟩;clear u0 v0 p0 p1 p2 q0 q1 q2 e0 e1 e2 e3 e4 e5;have amB:=He.out.lt;replace Hu:=kW Hu ae;replace Hv:=kW Hv ae;replace Hp:=kW Hp ae;replace Hq:=kW Hq ae;replace He:=kB He ae;have Hc:=ah qc;clear qc;have u0:=Hu.out.w1;have v0:=Hv.out.w1;obtain ⟨p0,p1,p2⟩:=Hp.out.w3;obtain ⟨q0,q1,q2⟩:=Hq.out.w3;obtain ⟨e0,e1,e2,e3,e4,e5⟩:=He.out.c6;obtain ⟨c0,c1,c2⟩:=Hc.out.c3;replace Hb:=az Hb ae;clear ae;refine aI rfl rfl (fun K hK=>?_);have cK:=ownsRow_below dm.out Hb.out;have iW:=Hb.out.size;refine wp_append_own _ _ _ 46 rfl w2.heap.size 30 i0 _ 3 32 Tryz.underlying46 Hi.out cO.out cP.out cE.out rfl zd v k (dC (Z.take k)) rfl cK ⟨w6.heap.size,0,none⟩ 1 1 [.bool (au (dN X)),.string (bs (nt (dN X).natAbs)),.int .i64 (dE X)] rfl rfl (gb Hc.out) zy zx zo zo ?_;intro v' w8 dG aZ _;obtain ⟨g',cq,rfl⟩:=ownsRow_succ dG;have nb : ∀ b,b < w2.heap.size -> some b ≠ v.ownBlock:=fun b hb e=>by have:=cL cK b e.symm;omega
    refine hK _ _ (fun _=>⟨bR aZ u0 (nb _ vS),bR aZ v0 (nb _ vS),bR aZ p0 (nb _ jV),bR aZ p1 (nb _ jV),bR aZ p2 (nb _ jV),bR aZ q0 (nb _ iI),bR aZ q1 (nb _ iI),bR aZ q2 (nb _ iI)⟩) ?_;clear hK K;try simp only [UU]
    refine pT rfl rfl ?_;try simp only [UU]
    simp only [aV];clear u0 v0 p0 p1 p2 q0 q1 q2 c0 c1 c2;go_wp2;go_roundw;case rel=>
     refine ⟨k + 1,_,by omega,by go_num,rfl,?_,?_⟩
     . rw [nO.out];exact dG
     . exact (aJ uz.out Hb.out).grown aZ zo (fun j e=>cL cK j e)
    case measure=>simp [intOf];omega
  . obtain rfl : k = n:=by omega
    have lw : Z.take k = Z:=List.take_of_length_le (by rw [sf.out];exact Nat.le_refl _);rw [lw] at pv;obtain ⟨a3,PG,rfl,RN,_⟩:=dA pv;have Cz:=ah RN;have Cv:=ah ((HT.out.below Hb.out).below pb);have Cy:=ah ((Ha.out.below Hb.out).below pb);have kV:=ah (aJ Hb.out pb);clear Hb RN pv pb lw xU vQ;have Hb : Hid (Bw w wr):=kV;go_wp2_with fail;refine (Hwj.out a3 PG _ Cy.out Cz.out Cv.out).mono ?_;rintro e w4 ⟨a4,c4,rfl,hl4,TU,ae⟩;have Ii:=ah TU;replace Hb:=ah (aJ Hb.out ae);replace Cz:=ah (Cz.out.below ae);replace Cv:=ah (Cv.out.below ae);replace Cy:=ah (Cy.out.below ae);clear TU ae;go_wp2_with fail;refine (Hwi.out a3 PG _ Cy.out Cz.out Cv.out).mono ?_;rintro e w5 ⟨a5,c5,rfl,hl5,xQ,ae⟩;have ZZ:=ah xQ;replace Hb:=ah (aJ Hb.out ae);replace Ii:=ah (Ii.out.below ae);clear xQ ae;go_wp2;refine bodyPost_ret (v:=.tuple #[.slice a4 L c4,.slice a5 L c5,.int .i64 0]) (by simp [results,Tryz.results14,go_sem]) rfl ⟨a4,c4,a5,c5,rfl,hl4,hl5,Ii.out,ZZ.out,Hb.out⟩
theorem Tryz.an3 : (Tryz.prog.info? 45).map (fun i=>(i.zero,i.size,i.bytes)) = some (some (.slice none 0 0),1,24):=by kernel_rfl
def iA (o p : List Raw) : List Dyadic:=List.zipWith (fun x y=>aC x - aC y) p o
theorem Du {o p : List Raw} (h : p.length = o.length) : (iA o p).length = p.length:=by simp [iA,h]
theorem ac6 (o p : List Raw) (k : Nat) (h : k < p.length) (h' : k < o.length) : (iA o p).take (k + 1) = (iA o p).take k ++ [aC p[k] - aC o[k]]:=by unfold iA;rw [List.take_succ_eq_append_getElem zi];simp
theorem Own2.an6 {e : TypeId} {w : World} {base k : Nat} {R : List (List Dyadic)} {v : Value} (h : Own2 e w base R k v) (hk : R.length = k) : ∃ a c,v = .slice a k c /\ k <= c /\ aY w a (R.map fun r=>r.map canon):=by
 obtain ⟨vals,hl,ho,hi⟩:=h;obtain ⟨a,c,hv,hat,_⟩:=dA ho;subst hv;refine ⟨a,c,rfl,Fl ho,vals,by simp [hl,hk],hat,fun i h1 h2=>?_⟩;obtain ⟨a1,c1,e1,e2,_⟩:=hi i h2;have hi1 : i < R.length:=by simpa using h1
 have eg : R.getD i [] = R[i]:=by simp [hi1]
 rw [eg] at e1 e2;refine ⟨a1,c1,?_,?_⟩
 . rw [e1];simp
 . rw [List.getElem_map,<- sN];exact e2
theorem Wb (b o cap m n : Nat) (rows : List (List Raw)) (B : Nat) (w : World) (hL : rows.length = m + 1) (hm : m <= 8) (hcap : m + 1 <= cap) (oF : 1 <= m) (hn : 1 <= n) (pM : n <= 8) (hrow : ∀ r ∈ rows,r.length = n) (ha : aY w (some ⟨b,o,none⟩) rows)
 (hfit : ∀ r ∈ rows,∀ c ∈ r,Fit B c) (hB : B <= 10000000) (hT : aB w) :
 Calls Tryz.prog 46 #[.slice (some ⟨b,o,none⟩) (m + 1) cap] w fun e w'=>∃ a' c',e = .returned (.slice a' m c') /\ m <= c' /\
  aY w' a' (((rows.drop 1).map fun p=>iA (rows.getD 0 []) p).map fun r=>r.map canon) /\ Bw w w':=by
 obtain ⟨i0,hi,hz0,hz1,hz2⟩:=info_parts Tryz.anW;obtain ⟨j0,hj,hy0,hy1,hy2⟩:=info_parts Tryz.an3;obtain ⟨S,hS⟩ : ∃ S,((rows.drop 1).map fun p=>iA (rows.getD 0 []) p) = S:=⟨_,rfl⟩;have Rs : S.length = m:=by rw [<- hS];simp [hL]
 have om : ∀ k (h0 : 0 < rows.length) (h1 : k + 1 < rows.length),S.getD k [] = iA rows[0] rows[k + 1]:=by
  intro k h0 h1;subst hS;have e0 : rows.getD 0 [] = rows[0]:=by simp [h0]
  rw [e0];have h2 : k < (rows.drop 1).length:=by simp;omega
  simp [h1]
 rw [hS];have hcell:=fun (W : World) (h : aY W (some ⟨b,o,none⟩) rows) (k : Nat) (hk : k < rows.length)=>h.row k hk;have Hi:=ah hi;have cO:=ah hz0;have cP:=ah hz1;have cE:=ah hz2;have Hj:=ah hj;have jK:=ah hy0;have lQ:=ah hy1;have lR:=ah hy2;have XN:=ah Rs;have rZ:=ah om;have NQ:=ah hcell;have HT:=ah hT;have Ha:=ah ha;have uI:=ah hrow;have zu:=ah hfit;have HL:=ah hL;clear hi hz0 hz1 hz2 hj hy0 hy1 hy2 hS Rs om hcell ha hT hL hrow hfit;have e1 : m + 1 - 1 = m:=by omega
 have e2 : ¬ cap = 1:=by omega
 go_enter Tryz.func46,Tryz.ntmps46;have Hb : Hid (Bw w w):=Below.refl _ _;go_wp2_with fail;obtain ⟨r0,vH⟩ : ∃ r0,rows[0]'(by rw [HL.out];omega) = r0:=⟨_,rfl⟩;obtain ⟨_,_,a0,c0,iq,hc0,ir⟩:=NQ.out w Ha.out 0 (by rw [HL.out];omega);obtain ⟨rfl,rfl⟩ : b = _ /\ o = _:=by simp at iq;exact iq
 have hn0 : r0.length = n:=by rw [<- vH];exact uI.out _ (List.getElem_mem _)
 have AJ : ∀ x ∈ r0,Fit B x:=by rw [<- vH];exact zu.out _ (List.getElem_mem _)
 have lV : ∀ k (h1 : k + 1 < rows.length),S.getD k [] = iA r0 rows[k + 1]:=fun k h1=>by rw [rZ.out k zo h1,vH]
 rw [vH] at hc0 ir;rw [hn0] at hc0;rw [Nat.add_zero] at hc0;have xU:=kJ (m + 1) cap 0 0 (show some (⟨b,o,none⟩ : Addr) = some ⟨b,o,none⟩ from rfl) zo rfl;rw [Nat.mul_one,Nat.add_zero] at xU;have sw:=ah hc0;have iw:=ah ir;have uE:=ah hn0;have Gv:=ah AJ;have XM:=ah lV;have vS : b < w.heap.size:=World.block_lt_of_cell? w _ hc0;clear hc0 ir hn0 AJ lV vH iq Hb;go_loopw [3,11] (fun s3 x wr=>∃ (k : Nat) (v : Value),k <= m /\ x = .int .i64 (k : Int) /\ v = s3 /\ Own2 45 wr w.heap.size S k v /\ Bw w wr) (fun _ x _=>m - (intOf x).toNat);case atStart=>exact ⟨0,_,Nat.zero_le _,rfl,rfl,Own2.nil _ _ _ _,Below.refl _ _⟩
 case round=>
  obtain ⟨k,v,hk,rfl,rfl,pv,pb⟩:=hrel;by_cases hlt : k < m
  . have hk2 : k + 1 < rows.length:=by rw [HL.out];omega
    obtain ⟨p,gT⟩ : ∃ p,rows[k + 1] = p:=⟨_,rfl⟩;obtain ⟨_,_,a1,c1,hab,hc1,hat⟩:=NQ.out wr (Ha.out.below pb) (k + 1) hk2;obtain ⟨rfl,rfl⟩ : b = _ /\ o = _:=by simp at hab;exact hab
    have mR : p.length = n:=by rw [<- gT];exact uI.out _ (List.getElem_mem hk2)
    have iu : ∀ x ∈ p,Fit B x:=by rw [<- gT];exact zu.out _ (List.getElem_mem hk2)
    have rq:=XM.out k hk2;rw [gT] at hc1 hat rq;rw [mR] at hc1;have kH:=kJ m (cap - 1) k (k : Int) (show some (⟨b,o + 1,none⟩ : Addr) = some ⟨b,o + 1,none⟩ from rfl) hlt rfl;rw [Nat.mul_one] at kH;have aeE : wr.cell? ⟨b,o + 1 + k,none⟩ = some (.slice a1 n c1):=by rw [show o + 1 + k = o + (k + 1) by omega];exact hc1
    obtain ⟨Z,hZ⟩ : ∃ Z,iA r0 p = Z:=⟨_,rfl⟩;rw [hZ] at rq;have fu:=ah hat;have lf:=ah mR;have pj:=ah iu;have wI:=ah rq;have HZ:=ah hZ;have aR:=ah pb;have dm:=ah pv;clear hat mR iu rq hZ pb pv hab gT hc1;have gN:=aR.out.size;obtain ⟨wc,hwc⟩ : ∃ wc,wc = wr:=⟨_,rfl⟩;subst hwc;go_wp2_with fail;go_loopw [6,17] (fun s6 x wr=>∃ (j : Nat) (v2 : Value),j <= n /\ x = .int .i64 (j : Int) /\ v2 = s6 /\ wr.ownsRow wc.heap.size 30 3 v2 j (dC (Z.take j)) /\ Bw wc wr) (fun _ x _=>n - (intOf x).toNat);case atStart=>exact ⟨0,_,Nat.zero_le _,rfl,rfl,World.ownsRow_nil _ _ _ _,Below.refl _ _⟩
    case round=>
     clear aeE;obtain ⟨j,v2,hj,rfl,rfl,ho,hb2⟩:=hrel;by_cases bi : j < n
     . have k1 : j < p.length:=by rw [lf.out];exact bi
       have k2 : j < r0.length:=by rw [uE.out];exact bi
       obtain ⟨sp,mp,ep,gA⟩ : ∃ s m e,p[j] = (s,m,e):=⟨_,_,_,rfl⟩;obtain ⟨sq,mq,eq,mV⟩ : ∃ s m e,r0[j] = (s,m,e):=⟨_,_,_,rfl⟩;have eJ:=pj.out _ (List.getElem_mem k1);have mf:=Gv.out _ (List.getElem_mem k2);rw [gA] at eJ;rw [mV] at mf;obtain ⟨X,hX⟩ : ∃ X,aC (sp,mp,ep) - aC (sq,mq,eq) = X:=⟨_,rfl⟩;have nO : Hid (dC (Z.take (j + 1)) = dC (Z.take j) ++ [.bool (au (dN X)),.string (bs (nt (dN X).natAbs)),.int .i64 (dE X)]):=by
        show _ = _
        rw [<- HZ.out,ac6 _ _ _ k1 k2,xm,gA,mV,hX];rfl
       have dS:=aJ aR.out hb2;obtain ⟨b1,o1,eI,p0,p1,p2⟩:=(fu.out.below hb2).num j k1 gA;obtain ⟨b2,o2,gv,q0,q1,q2⟩:=(iw.out.below dS).num j k2 mV;have SP:=mW n c1 j (j : Int) eI bi rfl;have alU:=mW n c0 j (j : Int) gv bi rfl;have jV : b1 < wc.heap.size:=(by subst eI;exact fu.out.lt (by intro h0;have:=congrArg List.length h0;rw [jr bD 3 (fun _=>rfl)] at this;simp at this;omega));have iI : b2 < wc.heap.size:=Nat.lt_of_lt_of_le (by subst gv;exact iw.out.lt (by intro h0;have:=congrArg List.length h0;rw [jr bD 3 (fun _=>rfl)] at this;simp at this;omega)) gN;have lbc : b < wc.heap.size:=Nat.lt_of_lt_of_le vS gN;have Hu : Hid (bj wr b o [.slice a0 n c0]):=fun i hi=>by
        obtain rfl : i = 0:=by simp at hi;omega
        exact cell_later dS sw.out
       have Hp : Hid (bj wr b1 (o1 + j * 3) [.bool sp,.string (bs mp),.int .i64 ep]):=iM p0 p1 p2;have Hq : Hid (bj wr b2 (o2 + j * 3) [.bool sq,.string (bs mq),.int .i64 eq]):=iM q0 q1 q2;have kX:=ah eJ;have wN:=ah mf;have HX:=ah hX;have Ho:=ah ho;have uz:=ah hb2;have cm:=ah (HT.out.below dS);have yC:=hb2.size;clear ho hb2 eJ mf hX gA mV eI gv p0 p1 p2 q0 q1 q2 dS;have Hb : Hid (Bw wr wr):=Below.refl _ _;go_wp2_with fail;have u0:=Hu.out.w1;obtain ⟨p0,p1,p2⟩:=Hp.out.w3;obtain ⟨q0,q1,q2⟩:=Hq.out.w3;refine bE (fun w'=>w'.cell? ⟨b,o,none⟩ = some (.slice a0 n c0) /\ w'.cell? ⟨b1,o1 + j * 3,none⟩ = some (.bool sp) /\ w'.cell? ⟨b1,o1 + j * 3 + 1,none⟩ = some (.string (bs mp)) /\ w'.cell? ⟨b1,o1 + j * 3 + 2,none⟩ = some (.int .i64 ep) /\ w'.cell? ⟨b2,o2 + j * 3,none⟩ = some (.bool sq) /\ w'.cell? ⟨b2,o2 + j * 3 + 1,none⟩ = some (.string (bs mq)) /\ w'.cell? ⟨b2,o2 + j * 3 + 2,none⟩ = some (.int .i64 eq)) (fun i=>Nat.blt i 100000) [(0,true),(1,true),(2,true),(3,true),(4,true),(5,true),(6,true),(7,true),(8,true),(9,true),(10,true),(11,false),(12,false),(13,false),(14,true)] zk zk rfl zk zc ⟨u0,p0,p1,p2,q0,q1,q2⟩ ?_;iterate 11 (refine pT rfl rfl ?_ (by intro w' ⟨q0,q1,q2,q3,q4,q5,q6⟩;go_simp;try with_reducible rfl);try simp only [UU])
       refine aI rfl rfl (fun K hK=>?_);go_simp;with_reducible refine (xq sp mp ep sq mq eq X B HX.out _ kX.out wN.out zo (by first | exact cm.out | exact aB.drew cm.out | exact aB.alloc cm.out _ | exact aB.drew (aB.alloc cm.out _) | exact aB.alloc (aB.drew cm.out) _)).mono ?_
       rintro e w6 ⟨rfl,hq⟩;have ae : Bw wr w6:=by first | exact hq | exact aN hq
       clear u0 p0 p1 p2 q0 q1 q2;replace Hu:=kW Hu ae;replace Hp:=kW Hp ae;replace Hq:=kW Hq ae;have u0:=Hu.out.w1;obtain ⟨p0,p1,p2⟩:=Hp.out.w3;obtain ⟨q0,q1,q2⟩:=Hq.out.w3;replace Hb:=az Hb ae;clear ae;refine hK _ _ (fun _=>⟨u0,p0,p1,p2,q0,q1,q2⟩) ?_;clear hK K;try simp only [UU]
       refine aI rfl rfl (fun K hK=>?_);go_simp;refine hK _ _ (fun _=>⟨aH u0,aH p0,aH p1,aH p2,aH q0,aH q1,aH q2⟩) ?_;clear hK K;try simp only [UU]
       refine bG (fun w7=>ai w7 (w6.heap.size) 30 [.bool (au (dN X)),.string (bs (nt (dN X).natAbs)),.int .i64 (dE X)] /\ Bw w6 w7) (by first | exact dP | exact dQ) ?_;rintro w7 ⟨qc,ae⟩;clear u0 p0 p1 p2 q0 q1 q2;replace Hu:=kW Hu ae;replace Hp:=kW Hp ae;replace Hq:=kW Hq ae;have Hc:=ah qc;clear qc;have u0:=Hu.out.w1;obtain ⟨p0,p1,p2⟩:=Hp.out.w3;obtain ⟨q0,q1,q2⟩:=Hq.out.w3;obtain ⟨c0,c1,c2⟩:=Hc.out.c3;replace Hb:=az Hb ae;clear ae;refine aI rfl rfl (fun K hK=>?_);have cK:=ownsRow_below Ho.out Hb.out;have iW:=Hb.out.size;refine wp_append_own _ _ _ 45 rfl wc.heap.size 30 i0 _ 3 32 Tryz.underlying45 Hi.out cO.out cP.out cE.out rfl zd v2 j (dC (Z.take j)) rfl cK ⟨w6.heap.size,0,none⟩ 1 1 [.bool (au (dN X)),.string (bs (nt (dN X).natAbs)),.int .i64 (dE X)] rfl rfl (gb Hc.out) zy zx zo zo ?_;intro v' w8 dG aZ _;obtain ⟨g',cq,rfl⟩:=ownsRow_succ dG;have nb : ∀ b,b < wc.heap.size -> some b ≠ v2.ownBlock:=fun b hb e=>by have:=cL cK b e.symm;omega
       refine hK _ _ (fun _=>⟨bR aZ u0 (nb _ lbc),bR aZ p0 (nb _ jV),bR aZ p1 (nb _ jV),bR aZ p2 (nb _ jV),bR aZ q0 (nb _ iI),bR aZ q1 (nb _ iI),bR aZ q2 (nb _ iI)⟩) ?_;clear hK K;try simp only [UU]
       refine pT rfl rfl ?_;try simp only [UU]
       simp only [aV];clear u0 p0 p1 p2 q0 q1 q2 c0 c1 c2;go_wp2;go_roundw;case rel=>
        refine ⟨j + 1,_,by omega,by go_num,rfl,?_,?_⟩
        . rw [nO.out];exact dG
        . exact (aJ uz.out Hb.out).grown aZ zo (fun j e=>cL cK j e)
       case measure=>simp [intOf];omega
     . obtain rfl : j = n:=by omega
       have lw : Z.take j = Z:=List.take_of_length_le (by rw [<- HZ.out,Du (by rw [lf.out,uE.out]),lf.out];exact Nat.le_refl _);rw [lw] at ho;obtain ⟨a2,cap2,rfl,ov,gv⟩:=dA ho;have fU:=ho.lt;obtain ⟨vals,hvl,hov,iX⟩:=dm.out.below hb2;have Hb : Hid (Bw wr wr):=Below.refl _ _;obtain ⟨_,_,oH,_⟩:=dm.out;have hvs:=oH.lt;have hin : ∀ b o,a2 = some ⟨b,o,none⟩ -> some b ≠ v.ownBlock /\ b < wr.heap.size:=by intro b o e;subst e;have h1:=fU b rfl;refine ⟨fun h2=>?_,h1.2⟩;have h3:=hvs b h2.symm;omega
       have nI:=ah hin;have yR:=ah ov;have lO:=ah hvl;have qW:=ah iX;have cw:=ah hov;have bS:=ah hb2;have yA:=hb2.size;have sf : Hid (Z.length = j):=by show _ = _;rw [<- HZ.out,Du (by rw [lf.out,uE.out]),lf.out]
       clear hin ov hvl iX hov oH hvs hb2 gv fU lw ho bi hj;obtain ⟨W6,eQ⟩ : ∃ W6,(wr.alloc (.cells #[.slice a2 j cap2] 45)) = W6:=⟨_,rfl⟩;have ae : Bw wr W6:=by rw [<- eQ];exact zl
       have Hd : Hid (ai W6 (wr.heap.size) 45 [.slice a2 j cap2]):=by rw [<- eQ];exact ai.newAt _ _ _ zm
       have d0:=Hd.out.c1;replace Hb:=az Hb ae;clear ae;have cK:=ownsRow_below cw.out Hb.out;have iW:=Hb.out.size;have hnews : ∀ i u,([.slice a2 j cap2] : List Value)[i]? = some u -> W6.cell? ((⟨wr.heap.size,0,none⟩ : Addr).add i) = some u:=gb Hd.out;clear d0;go_wp2_with (at_builtin;refine wpList_append_own_at _ rfl _ _ 78 rfl w.heap.size 45 j0 _ 1 24 Tryz.underlying78 Hj.out jK.out lQ.out lR.out rfl zd v k vals rfl cK ⟨wr.heap.size,0,none⟩ 1 1 [.slice a2 j cap2] rfl rfl hnews zy zx zo zo ?_;intro v' w7 dx eT _ fO;obtain ⟨g',mL,rfl⟩:=ownsRow_succ dx);go_roundw;case rel=>
        refine ⟨k + 1,_,by omega,by go_num,rfl,?_,?_⟩
        . refine Own2.push (a:=a2) (c:=cap2) lO.out (w:=W6) ?_ ?_ ?_ ?_ eT fO
          . intro i h;obtain ⟨a,c,h1,h2,h3⟩:=qW.out i h;exact ⟨a,c,h1,h2.below Hb.out,fun b o e=>⟨(h3 b o e).1,Nat.lt_of_lt_of_le (h3 b o e).2 iW⟩⟩
          . rw [wI.out];exact yR.out.below Hb.out
          . exact fun b o e=>⟨(nI.out b o e).1,Nat.lt_of_lt_of_le (nI.out b o e).2 iW⟩
          . rw [wI.out,sf.out];exact dx
        . exact (aJ (aJ aR.out bS.out) Hb.out).grown eT zo (fun j e=>cL cK j e)
       case measure=>simp [intOf];omega
  . obtain rfl : k = m:=by omega
    obtain ⟨a2,c2,rfl,hcl,jx⟩:=Own2.an6 pv XN.out;have pk:=ah jx;have aR:=ah pb;clear pv pb jx;go_wp2;refine bodyPost_ret (results_tmp rfl _ _ _) rfl ⟨a2,c2,rfl,hcl,pk.out,aR.out⟩
end Go.Proofs.YtdaadlblknpipaaGreatDoor
namespace Go.Proofs.YtdaadlblknpipaaGreatDoor
def fX (x y : Nat -> Dyadic) : Nat -> Dyadic
 | 0=>0
 | k + 1=>fX x y k + (x k - y k) * (x k - y k)
theorem ajx {x y x' y' : Nat -> Dyadic} (n : Nat) (hx : ∀ k,k < n -> x k = x' k) (hy : ∀ k,k < n -> y k = y' k) : fX x y n = fX x' y' n:=by
 induction n with
 | zero=>rfl
 | succ n ih=>unfold fX;rw [ih (fun k h=>hx k zo) (fun k h=>hy k zo),hx n zo,hy n zo]
theorem ajw (x y : Nat -> Dyadic) (n : Nat) : fX x y n = fX y x n:=by
 induction n with
 | zero=>rfl
 | succ n ih=>unfold fX;rw [ih];grind
theorem Wu (x : Nat -> Dyadic) (n : Nat) : fX x x n = 0:=by
 induction n with
 | zero=>rfl
 | succ n ih=>unfold fX;rw [ih];grind
theorem Qm (x : Dyadic) : 0 <= x * x:=by
 rw [<- Dyadic.toRat_le_toRat_iff,Dyadic.toRat_mul,Dyadic.toRat_zero];generalize x.toRat = q;by_cases h : 0 <= q
 . exact Rat.mul_nonneg h h
 . have h2 : 0 <= -q:=by grind
   have h3:=Rat.mul_nonneg h2 h2;have e : -q * -q = q * q:=by grind
   rwa [e] at h3
theorem Mu (x y : Nat -> Dyadic) (n : Nat) : 0 <= fX x y n:=by
 induction n with
 | zero=>exact Qm 0
 | succ n ih=>unfold fX;have:=Qm (x n - y n);grind
theorem ajy (x y z : Nat -> Dyadic) (h : Dyadic) (hh : h + h = 1) (n : Nat) : fX (fun k=>(x k + y k) * h) z n + fX (fun k=>(x k + y k) * h) z n + fX (fun k=>(x k + y k) * h) z n + fX (fun k=>(x k + y k) * h) z n = fX x z n + fX x z n + fX y z n + fX y z n - fX x y n:=by
 induction n with
 | zero=>simp [fX];grind
 | succ n ih =>
   unfold fX;have e : ((x n + y n) * h - z n) * ((x n + y n) * h - z n) + ((x n + y n) * h - z n) * ((x n + y n) * h - z n) + ((x n + y n) * h - z n) * ((x n + y n) * h - z n) + ((x n + y n) * h - z n) * ((x n + y n) * h - z n) =
    (x n - z n) * (x n - z n) + (x n - z n) * (x n - z n) + (y n - z n) * (y n - z n) + (y n - z n) * (y n - z n) - (x n - y n) * (x n - y n):=by
    have e1 : ((x n + y n) * h - z n) + ((x n + y n) * h - z n) = (x n - z n) + (y n - z n):=by grind
    generalize (x n + y n) * h - z n = m at *;have e2 : m * m + m * m + m * m + m * m = (m + m) * (m + m):=by grind
    rw [e2,e1];grind
   grind
theorem Jc (X : Dyadic) : 0 < bM X ↔ 0 < X:=by
 have h1:=Dy X;have h2:=Qk X;have h3 : bM X = -1 \/ bM X = 0 \/ bM X = 1:=by
  unfold bM dw;split
  . exact .inl rfl
  . split
    . exact .inr (.inl rfl)
    . exact .inr (.inr rfl)
 constructor
 . intro h;have a1 : ¬ X < 0:=fun h4=>by have:=h1.2 h4;omega
   have a2 : ¬ X = 0:=fun h4=>by have:=h2.2 h4;omega
   grind
 . intro h;rcases h3 with h4 | h4 | h4
   . have:=h1.1 zo;grind
   . have:=h2.1 h4;grind
   . omega
theorem agn (sq : Nat -> Nat -> Dyadic) (a b : Nat) (s : Nat × Nat × Dyadic) : s.2.2 <= (rO sq a b s).2.2 /\ sq a b <= (rO sq a b s).2.2:=by
 unfold rO;split
 . rename_i h
   rw [Jc] at h;exact ⟨by show s.2.2 <= sq a b;grind,by show sq a b <= sq a b;grind⟩
 . rename_i h
   rw [Jc] at h;exact ⟨by grind,by grind⟩
theorem agm (sq : Nat -> Nat -> Dyadic) (a k b : Nat) (s : Nat × Nat × Dyadic) : s.2.2 <= (nk sq a k b s).2.2 /\ ∀ c,b <= c -> c < b + k -> sq a c <= (nk sq a k b s).2.2:=by
 induction k generalizing b s with
 | zero=>exact ⟨by unfold nk;grind,fun c h1 h2=>by omega⟩
 | succ k ih =>
   unfold nk;obtain ⟨h1,h2⟩:=ih (b + 1) (rO sq a b s);obtain ⟨h3,h4⟩:=agn sq a b s;refine ⟨by grind,fun c h5 h6=>?_⟩;by_cases e : c = b
   . subst e;grind
   . exact h2 c zo zo
theorem agk (sq : Nat -> Nat -> Dyadic) (L k a : Nat) (s : Nat × Nat × Dyadic) (hk : a + k = L) : s.2.2 <= (mr sq L k a s).2.2 /\ ∀ c d,a <= c -> c < d -> d < L -> sq c d <= (mr sq L k a s).2.2:=by
 induction k generalizing a s with
 | zero=>exact ⟨by unfold mr;grind,fun c d h1 h2 h3=>by omega⟩
 | succ k ih =>
   unfold mr;obtain ⟨h1,h2⟩:=ih (a + 1) (nk sq a (L - (a + 1)) (a + 1) s) zo;obtain ⟨h3,h4⟩:=agm sq a (L - (a + 1)) (a + 1) s;refine ⟨by grind,fun c d h5 h6 h7=>?_⟩;by_cases e : c = a
   . subst e;have:=h4 d zo zo;grind
   . exact h2 c d zo h6 h7
theorem UI (sq : Nat -> Nat -> Dyadic) (L a b : Nat) (hab : a < b) (hb : b < L) : sq a b <= (dh sq L).2.2:=(agk sq L L 0 (0,1,sq 0 1) zo).2 a b zo hab hb
def cG (n : Nat) (p : Nat -> Nat -> Dyadic) (a b : Nat) : Dyadic:=fX (p a) (p b) n
def jL (n : Nat) (m : Dyadic) (c : Nat) (p : Nat -> Nat -> Dyadic) : Prop:=
 (∀ a b,a <= n -> b <= n -> cG n p a b <= m) /\ ∃ old : List Nat,old.length <= c /\ old.Nodup /\ ∀ a b,a <= n -> b <= n -> a ≠ b -> ¬ (a ∈ old /\ b ∈ old) -> cG n p a b + cG n p a b + cG n p a b + cG n p a b <= m + m + m
theorem jL.start (n : Nat) (m : Dyadic) (p : Nat -> Nat -> Dyadic) (h : ∀ a b,a <= n -> b <= n -> cG n p a b <= m) : jL n m (n + 1) p:=
 ⟨h,List.range (n + 1),by simp,List.nodup_range,fun a b ha hb hab hn=>absurd ⟨by simp;omega,by simp;omega⟩ hn⟩
theorem jL.done {n : Nat} {m : Dyadic} {c : Nat} {p : Nat -> Nat -> Dyadic} (h : jL n m c p) (hc : c <= 1) (a b : Nat) (ha : a <= n) (hb : b <= n) (hab : a ≠ b) : cG n p a b + cG n p a b + cG n p a b + cG n p a b <= m + m + m:=by
 obtain ⟨_,old,h1,h2,h3⟩:=h;refine h3 a b ha hb hab (fun ⟨h4,h5⟩=>?_);match old,h1,h4,h5 with
 | [],_,h4,_=>cases h4
 | [x],_,h4,h5=>simp at h4 h5;omega
 | x :: y :: l,h1,_,_=>simp at h1;omega
theorem agT (n : Nat) (p : Nat -> Nat -> Dyadic) (h : Dyadic) (hh : h + h = 1) (i j v b : Nat) (hb : b ≠ v) : cG n (gU p h i j v) v b + cG n (gU p h i j v) v b + cG n (gU p h i j v) v b + cG n (gU p h i j v) v b = cG n p i b + cG n p i b + cG n p j b + cG n p j b - cG n p i j:=by
 have e1 : gU p h i j v v = fun k=>(p i k + p j k) * h:=by funext k;unfold gU;rw [if_pos rfl]
 have e2 : gU p h i j v b = p b:=by funext k;unfold gU;rw [if_neg hb]
 unfold cG;rw [e1,e2];exact ajy (p i) (p j) (p b) h hh n
theorem Vg (n : Nat) (p : Nat -> Nat -> Dyadic) (h : Dyadic) (i j v a b : Nat) (ha : a ≠ v) (hb : b ≠ v) : cG n (gU p h i j v) a b = cG n p a b:=by
 have e1 : gU p h i j v a = p a:=by funext k;unfold gU;rw [if_neg ha]
 have e2 : gU p h i j v b = p b:=by funext k;unfold gU;rw [if_neg hb]
 unfold cG;rw [e1,e2]
theorem Mv (n : Nat) (p : Nat -> Nat -> Dyadic) (a b : Nat) : cG n p a b = cG n p b a:=ajw _ _ _
theorem jL.step {n : Nat} {m : Dyadic} {c : Nat} {p : Nat -> Nat -> Dyadic} (h0 : jL n m c p) (h : Dyadic) (hh : h + h = 1) (i j v : Nat) (hij : i ≠ j) (hi : i <= n) (hj : j <= n) (hv : v = i \/ v = j) (hmax : ∀ a b,a <= n -> b <= n -> cG n p a b <= cG n p i j) :
 jL n m (c - 1) (gU p h i j v):=by
 obtain ⟨h1,old,h2,h3,h4⟩:=h0;have hY0 : 0 <= cG n p i j:=Mu _ _ _;have hYm:=h1 i j hi hj;have hnew : ∀ b,b <= n -> b ≠ v -> cG n (gU p h i j v) v b + cG n (gU p h i j v) v b + cG n (gU p h i j v) v b + cG n (gU p h i j v) v b <= cG n p i j + cG n p i j + cG n p i j:=by intro b hb hbv;rw [agT n p h hh i j v b hbv];have a1:=hmax i b hi hb;have a2:=hmax j b hj hb;grind
 have afn : ∀ (q : Nat -> Nat -> Dyadic) a,cG n q a a = 0:=fun q a=>Wu _ _;have hnn : ∀ (q : Nat -> Nat -> Dyadic) a b,0 <= cG n q a b:=fun q a b=>Mu _ _ _;have hall : ∀ a b,a <= n -> b <= n -> cG n (gU p h i j v) a b <= cG n p i j:=by
  intro a b ha hb;by_cases ea : a = v
  . by_cases eb : b = v
    . rw [ea,eb,afn];exact hY0
    . subst ea;have:=hnew b hb eb;grind
  . by_cases eb : b = v
    . subst eb;rw [Mv];have:=hnew a ha ea;grind
    . rw [Vg n p h i j v a b ea eb];exact hmax a b ha hb
 refine ⟨fun a b ha hb=>by have:=hall a b ha hb;grind,?_⟩;by_cases hsm : cG n p i j + cG n p i j + cG n p i j + cG n p i j <= m + m + m
 . exact ⟨[],Nat.zero_le _,List.nodup_nil,fun a b ha hb _ _=>by have:=hall a b ha hb;grind⟩
 . have hio : i ∈ old /\ j ∈ old:=Classical.byContradiction fun hc=>hsm (h4 i j hi hj hij hc);have KV : v ∈ old:=by rcases hv with rfl | rfl<;>simp [hio]
   refine ⟨old.erase v,by rw [List.length_erase_of_mem KV];omega,h3.erase _,fun a b ha hb hab hn=>?_⟩;by_cases ea : a = v
   . subst ea;have:=hnew b hb (fun e=>hab e.symm);grind
   . by_cases eb : b = v
     . subst eb;rw [Mv];have:=hnew a ha ea;grind
     . rw [Vg n p h i j v a b ea eb];refine h4 a b ha hb hab (fun ⟨h5,h6⟩=>hn ⟨?_,?_⟩)
       . exact (List.mem_erase_of_ne ea).2 h5
       . exact (List.mem_erase_of_ne eb).2 h6
end Go.Proofs.YtdaadlblknpipaaGreatDoor
