/- Package tri: the square of an edge. -/
import Derived.Test.YtdaadlblknpipaaGreatDoorZ12
import Derived.Test.YtdaadlblknpipaaGreatDoorZ7
import Derived.Test.YtdaadlblknpipaaGreatDoorZ10
set_option linter.unusedVariables false
set_option linter.unusedSimpArgs false
set_option maxRecDepth 100000
set_option maxHeartbeats 16000000
namespace Go.Proofs.YtdaadlblknpipaaGreatDoor
open Go.RowKit
attribute [local go_sem ↓] Go.wp_at_zero Go.wp_at_succ
def rK (p q : List Dyadic) : Nat -> Dyadic
 | 0=>0
 | k + 1=>rK p q k + (p.getD k 0 - q.getD k 0) * (p.getD k 0 - q.getD k 0)
theorem Wl {B : Nat} {p q : List Dyadic} (hp : ∀ c ∈ p,Sm B c) (hq : ∀ c ∈ q,Sm B c) (k : Nat) : Sm (2 * B + 2 + k) (rK p q k):=by
 induction k with
 | zero=>exact Sm.zero _
 | succ k ih =>have h1:=Sm.sub (QA hp k) (QA hq k);have h2:=Sm.mul h1 h1;exact Sm.add ih (h2.mono (show B + 1 + (B + 1) <= 2 * B + 2 + k by omega))
theorem ajd (a : Option Addr) (n cap : Nat) (P : List Raw) (a' : Option Addr) (cap' : Nat) (Q : List Raw) (B : Nat) (w : World) (hP : P.length = n) (hQ : Q.length = n) (hn : n <= 8) (ha : At w a (P.flatMap bF)) (ha' : At w a' (Q.flatMap bF))
 (Kf : ∀ x ∈ P,Fit B x) (Kg : ∀ x ∈ Q,Fit B x) (hB : B <= 10000000) (hT : az w) :
 Calls Tryz.prog 89 #[.slice a n cap,.slice a' n cap'] w fun e w'=>e = .returned (bM (rK (P.map aB) (Q.map aB) n)) /\ Bw w w':=by
 have TE : ∀ c ∈ P.map aB,Sm B c:=fun c hc=>by obtain ⟨x,hx,rfl⟩:=List.mem_map.1 hc;exact (Kf x hx).2
 have TF : ∀ c ∈ Q.map aB,Sm B c:=fun c hc=>by obtain ⟨x,hx,rfl⟩:=List.mem_map.1 hc;exact (Kg x hx).2
 have td:=fun k=>Wl TE TF k;have hstep : ∀ k (h1 : k < P.length) (h2 : k < Q.length),rK (P.map aB) (Q.map aB) (k + 1) = rK (P.map aB) (Q.map aB) k + (aB P[k] - aB Q[k]) * (aB P[k] - aB Q[k]):=fun k h1 h2=>by
  have e1 : (P.map aB).getD k 0 = aB P[k]:=by simp [h1]
  have e2 : (Q.map aB).getD k 0 = aB Q[k]:=by simp [h2]
  rw [rK,e1,e2]
 have hs0 : rK (P.map aB) (Q.map aB) 0 = 0:=rfl;obtain ⟨F,hF⟩ : ∃ F,rK (P.map aB) (Q.map aB) = F:=⟨_,rfl⟩;rw [hF] at hs0 ⊢;simp only [hF] at td hstep;have HP:=ah hP;have HQ:=ah hQ;have Ha:=ah ha;have oQ:=ah ha';have Gu:=ah Kf;have yN:=ah Kg;have HT:=ah hT;have ZG:=ah td;have gg:=ah hstep;have nJ:=ah hs0;clear hP hQ ha ha' Kf Kg hT td hstep hs0 hF TE TF;obtain ⟨W,aK⟩ : ∃ W,((w.alloc (.cells #[.bool false,.string ⟨#[]⟩,.int .i64 0] 30)).alloc (.cells #[.bool false,.string ⟨#[]⟩,.int .i64 0] 30)) = W:=⟨_,rfl⟩;have Hb : Hid (Bw w W):=by rw [<- aK];exact (zl.alloc zj _)
 have Hr : Hid (ai W (w.heap.size) 30 [.bool false,.string ⟨#[]⟩,.int .i64 0]):=by rw [<- aK];exact (ai.newAt _ _ _ zm).alloc _
 have Hs : Hid (ai W (w.heap.size + 1) 30 [.bool false,.string ⟨#[]⟩,.int .i64 0]):=by rw [<- aK];exact ai.newAt _ _ _ zm
 obtain ⟨r0,aj,r1,ak,r2,aC⟩:=Hr.out.g3;obtain ⟨s0,bY,s1,bZ,s2,cV⟩:=Hs.out.g3;go_enter Tryz.func89,Tryz.ntmps89;go_wp2_with fail;clear r0 aj r1 ak r2 aC s0 bY s1 bZ s2 cV;obtain ⟨R,hR⟩ : ∃ R : World -> Prop,(fun w1=>ai w1 (w.heap.size) 30 [.bool false,.string ⟨#[]⟩,.int .i64 0] /\ ai w1 (w.heap.size + 1) 30 [.bool false,.string ⟨#[]⟩,.int .i64 0] /\ Bw w w1) = R:=⟨_,rfl⟩;first | refine bE R ?hR ?_ | refine bC R ?hR ?_
 case hR=>subst hR;exact ⟨(((Hr.out.so (w.heap.size + 1) 0 zo _).so (w.heap.size + 1) 1 zo _).so (w.heap.size + 1) 2 zo _),(((Hs.out.set 0 _).set 1 _).set 2 _),(((Hb.out.sc (w.heap.size + 1) 0 ZS _).sc (w.heap.size + 1) 1 ZS _).sc (w.heap.size + 1) 2 ZS _)⟩
 subst hR;rintro w1 ⟨qr,qs,ae⟩;replace Hr:=ah qr;clear qr;replace Hs:=ah qs;clear qs;obtain ⟨r0,aj,r1,ak,r2,aC⟩:=Hr.out.g3;obtain ⟨s0,bY,s1,bZ,s2,cV⟩:=Hs.out.g3;replace Hb:=ah ae;clear ae;have lr:=Hr.out.lt;have ls:=Hs.out.lt;go_wp2_with fail;go_loopw [11] (fun i wr=>∃ (k : Nat) (X : Dyadic),k <= n /\ i = .int .i64 (k : Int) /\ F k = X /\ ai wr w.heap.size 30 [.bool false,.string ⟨#[]⟩,.int .i64 0] /\ ai wr (w.heap.size + 1) 30 (bF (canon X)) /\ Bw w wr) (fun i _=>n - (intOf i).toNat);case atStart=>exact ⟨0,0,Nat.zero_le _,rfl,nJ.out,Hr.out,Hs.out,Hb.out⟩
 case round=>
  clear r0 r1 r2 aj ak aC s0 s1 s2 bY bZ cV Hr Hs;obtain ⟨k,X,hk,rfl,hX,pr,ps,pb⟩:=hrel;by_cases hlt : k < n
  . have k1 : k < P.length:=by rw [HP.out];exact hlt
    have k2 : k < Q.length:=by rw [HQ.out];exact hlt
    obtain ⟨sp,mp,ep,gF⟩ : ∃ s m e,P[k] = (s,m,e):=⟨_,_,_,rfl⟩;obtain ⟨sq,mq,eq,mU⟩ : ∃ s m e,Q[k] = (s,m,e):=⟨_,_,_,rfl⟩;have eH:=Gu.out _ (List.getElem_mem k1);have ma:=yN.out _ (List.getElem_mem k2);have hst:=gg.out k k1 k2;rw [gF] at eH hst;rw [mU] at ma hst;obtain ⟨D,hD⟩ : ∃ D,aB (sp,mp,ep) - aB (sq,mq,eq) = D:=⟨_,rfl⟩;obtain ⟨E,hE⟩ : ∃ E,D * D = E:=⟨_,rfl⟩;obtain ⟨Y,hY⟩ : ∃ Y,X + E = Y:=⟨_,rfl⟩;rw [hX,hD,hE,hY] at hst;have kC : Sm (B + 1) D:=by rw [<- hD];exact Sm.sub eH.2 ma.2
    have QP : Sm (2 * B + 2) E:=by rw [<- hE];exact (Sm.mul kC kC).mono zo
    have gJ : Sm (2 * B + 2 + k) X:=by rw [<- hX];exact ZG.out k
    obtain ⟨b1,o1,dM,p0,p1,p2⟩:=(Ha.out.below pb).num k k1 gF;obtain ⟨b2,o2,gz,q0,q1,q2⟩:=(oQ.out.below pb).num k k2 mU;have kG:=mV n cap k (k : Int) dM hlt rfl;have oC:=mV n cap' k (k : Int) gz hlt rfl;have Hp : Hid (bo wr b1 (o1 + k * 3) [.bool sp,.string (bs mp),.int .i64 ep]):=iK p0 p1 p2;have Hq : Hid (bo wr b2 (o2 + k * 3) [.bool sq,.string (bs mq),.int .i64 eq]):=iK q0 q1 q2;have kU:=ah eH;have wI:=ah ma;have HD:=ah hD;have HE:=ah hE;have HY:=ah hY;have cd:=ah hst;have Xg:=ah kC;have Xi:=ah QP;have Cu:=ah gJ;have Hr:=ah pr;have Hs : Hid (ai wr (w.heap.size + 1) 30 [.bool (ar (dN X)),.string (bs (nt (dN X).natAbs)),.int .i64 (dE X)]):=ps;have kR:=ah pb;have aY:=ah (HT.out.below pb);have szb:=pb.size;clear pr ps pb eH ma hst hD hE hY kC QP gJ p0 p1 p2 q0 q1 q2 gF mU hX dM gz;have Hb : Hid (Bw wr wr):=Below.refl _ _;go_upto_region 5 with fail
    go_cut [7] (fun s7 wx=>∃ g : Nat,s7 = .pointer (some ⟨g,0,none⟩) /\ wr.heap.size <= g /\ ai wx g 30 [.bool (ar (dN D)),.string (bs (nt (dN D).natAbs)),.int .i64 (dE D)] /\ Bw wr wx);case first=>
     have p0 : wr.cell? ⟨b1,o1 + k * 3,none⟩ = some (.bool sp):=Hp.out.cell 0 zm;have p1 : wr.cell? ⟨b1,o1 + k * 3 + 1,none⟩ = some (.string (bs mp)):=Hp.out.cell 1 zm;have p2 : wr.cell? ⟨b1,o1 + k * 3 + 2,none⟩ = some (.int .i64 ep):=Hp.out.cell 2 zm;have q0 : wr.cell? ⟨b2,o2 + k * 3,none⟩ = some (.bool sq):=Hq.out.cell 0 zm;have q1 : wr.cell? ⟨b2,o2 + k * 3 + 1,none⟩ = some (.string (bs mq)):=Hq.out.cell 1 zm;have q2 : wr.cell? ⟨b2,o2 + k * 3 + 2,none⟩ = some (.int .i64 eq):=Hq.out.cell 2 zm;obtain ⟨p0,p1,p2⟩:=Hp.out.w3;obtain ⟨q0,q1,q2⟩:=Hq.out.w3;refine MS (fun w'=>w'.cell? ⟨b1,o1 + k * 3,none⟩ = some (.bool sp) /\ w'.cell? ⟨b1,o1 + k * 3 + 1,none⟩ = some (.string (bs mp)) /\ w'.cell? ⟨b1,o1 + k * 3 + 2,none⟩ = some (.int .i64 ep) /\ w'.cell? ⟨b2,o2 + k * 3,none⟩ = some (.bool sq) /\ w'.cell? ⟨b2,o2 + k * 3 + 1,none⟩ = some (.string (bs mq)) /\ w'.cell? ⟨b2,o2 + k * 3 + 2,none⟩ = some (.int .i64 eq)) (fun i=>Nat.blt i 10) 8 9 [(9,false),(10,false)] [(8,false),(10,false)] [0,1,2,3,4,5,6,7] zk zk rfl rfl zk zc ⟨p0,p1,p2,q0,q1,q2⟩ ?_;iterate 8 (refine LZ rfl rfl (v:=?_) (fun w' hw'=>?_) ?_;rotate_left;(focus obtain ⟨q0,q1,q2,q3,q4,q5⟩:=hw';go_simp;try with_reducible rfl);try simp only [UU])
     refine LV rfl rfl rfl rfl (fun K hK=>?_) (fun K hK=>?_)
     . go_simp;with_reducible refine (xe sp mp ep sq mq eq D B HD.out _ kU.out wI.out zo (by first | exact aY.out | exact az.drew aY.out | exact az.alloc aY.out _ | exact az.drew (az.alloc aY.out _) | exact az.alloc (az.drew aY.out) _)).mono ?_
       rintro e w5 ⟨rfl,hq⟩;have cF : Bw wr w5:=aM hq;refine hK _ _ ⟨cell_later cF p0,cell_later cF p1,cell_later cF p2,cell_later cF q0,cell_later cF q1,cell_later cF q2⟩ ?_;try simp only [UU]
       refine aH rfl rfl (fun K hK=>?_);go_simp;refine hK _ _ (fun _=>⟨aG (cell_later cF p0),aG (cell_later cF p1),aG (cell_later cF p2),aG (cell_later cF q0),aG (cell_later cF q1),aG (cell_later cF q2)⟩) ?_;try simp only [UU]
       refine aH rfl rfl (fun K hK=>?_);go_simp;refine hK _ _ (fun h=>absurd h zd) ?_;simp only [aU];go_wp2_with fail;go_meet;exact ⟨w5.heap.size,rfl,cF.size,ai.new _ _ _,cF.alloc cF.size _⟩
     . go_simp;refine hK _ _ ⟨aG p0,aG p1,aG p2,aG q0,aG q1,aG q2⟩ ?_;try simp only [UU]
       refine aH rfl rfl (fun K hK=>?_);go_simp;with_reducible refine (xe sp mp ep sq mq eq D B HD.out _ kU.out wI.out zo (by first | exact aY.out | exact az.drew aY.out | exact az.alloc aY.out _ | exact az.drew (az.alloc aY.out _) | exact az.alloc (az.drew aY.out) _)).mono ?_
       rintro e w5 ⟨rfl,hq⟩;have cF : Bw wr w5:=nQ hq;have Hn : ai w5 wr.heap.size 30 [.bool false,.string ⟨#[]⟩,.int .i64 0]:=ai.below (ai.new wr.drew 30 [.bool false,.string ⟨#[]⟩,.int .i64 0]) hq;obtain ⟨n0,fe,n1,fg,n2,fh⟩:=Hn.g3;refine hK _ _ (fun _=>⟨cell_later cF p0,cell_later cF p1,cell_later cF p2,cell_later cF q0,cell_later cF q1,cell_later cF q2⟩) ?_;try simp only [UU]
       refine aH rfl rfl (fun K hK=>?_);go_simp;refine hK _ _ (fun h=>absurd h zd) ?_;simp only [aU];go_wp2_with fail;go_meet;exact ⟨wr.heap.size,rfl,Nat.le_refl _,((Hn.set 0 _).set 1 _).set 2 _,((cF.sc wr.heap.size 0 (Nat.le_refl _) _).sc wr.heap.size 1 (Nat.le_refl _) _).sc wr.heap.size 2 (Nat.le_refl _) _⟩
    case rest=>
     obtain ⟨g,rfl,hg,qd,qb⟩:=hcut;have CE : Hid (Fit (B + 1) (ar (dN D),nt (dN D).natAbs,dE D)):=Xg.out.fit zo;have Yg : Hid (Fit (2 * B + 10) (ar (dN X),nt (dN X).natAbs,dE X)):=(Cu.out.mono zo).fit zo;have Yf : Hid (Fit (2 * B + 10) (ar (dN E),nt (dN E).natAbs,dE E)):=(Xi.out.mono zo).fit zo;have YP : Hid (aB (ar (dN D),nt (dN D).natAbs,dE D) * aB (ar (dN D),nt (dN D).natAbs,dE D) = E):=by show aB (canon D) * aB (canon D) = E;rw [bU];exact HE.out
     have XJ : Hid (aB (ar (dN X),nt (dN X).natAbs,dE X) + aB (ar (dN E),nt (dN E).natAbs,dE E) = Y):=by show aB (canon X) + aB (canon E) = Y;rw [bU,bU];exact HY.out
     have ls2:=Hs.out.lt;replace Hr:=ah (Hr.out.below qb);replace Hs:=ah (Hs.out.below qb);have Hd:=ah qd;replace aY:=ah (aY.out.below qb);clear Hb;have Hb:=ah (aI kR.out qb);have lg:=Hd.out.lt;clear qd qb;obtain ⟨r0,r1,r2⟩:=Hr.out.c3;obtain ⟨s0,bY,s1,bZ,s2,cV⟩:=Hs.out.g3;obtain ⟨d0,d1,d2⟩:=Hd.out.c3;have aY : Hid (az wc):=aY.out;go_wp2_with fail;refine bG (fun w'=>w'.cell? ⟨w.heap.size + 1,0,none⟩ = some (.bool (ar (dN X))) /\ w'.cell? ⟨w.heap.size + 1,1,none⟩ = some (.string (bs (nt (dN X).natAbs))) /\ w'.cell? ⟨w.heap.size + 1,2,none⟩ = some (.int .i64 (dE X)) /\ w'.cell? ⟨g,0,none⟩ = some (.bool (ar (dN D))) /\ w'.cell? ⟨g,1,none⟩ = some (.string (bs (nt (dN D).natAbs))) /\ w'.cell? ⟨g,2,none⟩ = some (.int .i64 (dE D))) (fun i=>Nat.blt i 7) [(0,true),(1,true),(2,true),(3,false),(4,false),(5,false),(6,false),(7,false)] zk zk rfl zk zc ⟨s0,s1,s2,d0,d1,d2⟩ ?_;iterate 3 (refine pT rfl rfl ?_ (by intro w' ⟨q0,q1,q2,q3,q4,q5⟩;go_simp;try with_reducible rfl);try simp only [UU])
     refine aH rfl rfl (fun K hK=>?_);go_simp;refine hK _ _ (fun _=>⟨aG s0,aG s1,aG s2,aG d0,aG d1,aG d2⟩) ?_;clear hK K;try simp only [UU]
     refine bJ (fun w6=>ai w6 (wc.heap.size) 30 [.bool (ar (dN D)),.string (bs (nt (dN D).natAbs)),.int .i64 (dE D),.bool (ar (dN D)),.string (bs (nt (dN D).natAbs)),.int .i64 (dE D)] /\ Bw wc w6) (by first | exact dQ | exact dR) ?_;rintro w6 ⟨BL,ae⟩;clear r0 r1 r2 s0 bY s1 bZ s2 cV d0 d1 d2;have amI:=Hr.out.lt;have amM:=Hs.out.lt;have ame:=Hd.out.lt;replace Hr:=kB Hr ae;replace Hs:=kB Hs ae;replace Hd:=kB Hd ae;replace aY:=kT aY ae;have ku:=ah BL;clear BL;obtain ⟨r0,r1,r2⟩:=Hr.out.c3;obtain ⟨s0,bY,s1,bZ,s2,cV⟩:=Hs.out.g3;obtain ⟨d0,d1,d2⟩:=Hd.out.c3;obtain ⟨tE,tF,tG,pK,pL,m15⟩:=ku.out.c6;replace Hb:=au Hb ae;clear ae;refine aH rfl rfl (fun K hK=>?_);go_simp;with_reducible refine (zT _ _ _ _ _ _ E (B + 1) YP.out _ 2 _ _ CE.out CE.out zo ku.out (by first | exact aY.out | exact az.drew aY.out | exact az.alloc aY.out _ | exact az.drew (az.alloc aY.out _) | exact az.alloc (az.drew aY.out) _)).mono ?_
     rintro e w7 ⟨rfl,hq⟩;have ae : Bw w6 w7:=by first | exact hq | exact aM hq
     clear r0 r1 r2 s0 bY s1 bZ s2 cV d0 d1 d2 tE tF tG pK pL m15;replace Hr:=kB Hr ae;replace Hs:=kB Hs ae;replace Hd:=kB Hd ae;replace aY:=kT aY ae;replace ku:=kB ku ae;obtain ⟨r0,r1,r2⟩:=Hr.out.c3;obtain ⟨s0,bY,s1,bZ,s2,cV⟩:=Hs.out.g3;obtain ⟨d0,d1,d2⟩:=Hd.out.c3;obtain ⟨tE,tF,tG,pK,pL,m15⟩:=ku.out.c6;replace Hb:=au Hb ae;clear ae;refine hK _ _ (fun _=>⟨s0,s1,s2,d0,d1,d2⟩) ?_;clear hK K;try simp only [UU]
     refine aH rfl rfl (fun K hK=>?_);go_simp;refine hK _ _ (fun _=>⟨aG s0,aG s1,aG s2,aG d0,aG d1,aG d2⟩) ?_;clear hK K;try simp only [UU]
     refine bJ (fun w8=>ai w8 (w7.heap.size) 30 [.bool (ar (dN X)),.string (bs (nt (dN X).natAbs)),.int .i64 (dE X),.bool (ar (dN E)),.string (bs (nt (dN E).natAbs)),.int .i64 (dE E)] /\ Bw w7 w8) (by first | exact dQ | exact dR) ?_;rintro w8 ⟨BM,ae⟩;clear r0 r1 r2 s0 bY s1 bZ s2 cV d0 d1 d2 tE tF tG pK pL m15;have amJ:=Hr.out.lt;have amN:=Hs.out.lt;have amf:=Hd.out.lt;have ams:=ku.out.lt;replace Hr:=kB Hr ae;replace Hs:=kB Hs ae;replace Hd:=kB Hd ae;replace aY:=kT aY ae;replace ku:=kB ku ae;have rX:=ah BM;clear BM;obtain ⟨r0,r1,r2⟩:=Hr.out.c3;obtain ⟨s0,bY,s1,bZ,s2,cV⟩:=Hs.out.g3;obtain ⟨d0,d1,d2⟩:=Hd.out.c3;obtain ⟨tE,tF,tG,pK,pL,m15⟩:=ku.out.c6;obtain ⟨EU,EW,EX,EY,EZ,Fa⟩:=rX.out.c6;replace Hb:=au Hb ae;clear ae;refine aH rfl rfl (fun K hK=>?_);go_simp;with_reducible refine (zS _ _ _ _ _ _ Y (2 * B + 10) XJ.out _ 2 _ _ Yg.out Yf.out zo rX.out (by first | exact aY.out | exact az.drew aY.out | exact az.alloc aY.out _ | exact az.drew (az.alloc aY.out _) | exact az.alloc (az.drew aY.out) _)).mono ?_
     rintro e w9 ⟨rfl,hq⟩;have ae : Bw w8 w9:=by first | exact hq | exact aM hq
     clear r0 r1 r2 s0 bY s1 bZ s2 cV d0 d1 d2 tE tF tG pK pL m15 EU EW EX EY EZ Fa;replace Hr:=kB Hr ae;replace Hs:=kB Hs ae;replace Hd:=kB Hd ae;replace aY:=kT aY ae;replace ku:=kB ku ae;replace rX:=kB rX ae;obtain ⟨r0,r1,r2⟩:=Hr.out.c3;obtain ⟨s0,bY,s1,bZ,s2,cV⟩:=Hs.out.g3;obtain ⟨d0,d1,d2⟩:=Hd.out.c3;obtain ⟨tE,tF,tG,pK,pL,m15⟩:=ku.out.c6;obtain ⟨EU,EW,EX,EY,EZ,Fa⟩:=rX.out.c6;replace Hb:=au Hb ae;clear ae;refine hK _ _ (fun _=>⟨s0,s1,s2,d0,d1,d2⟩) ?_;clear hK K;try simp only [UU]
     refine aH rfl rfl (fun K hK=>?_);go_simp;refine hK _ _ (fun h=>absurd h zd) ?_;clear hK K;try simp only [UU]
     clear r0 r1 r2 s0 bY s1 bZ s2 cV d0 d1 d2 tE tF tG pK pL m15 EU EW EX EY EZ Fa;refine bJ (fun dU=>ai dU (w.heap.size) 30 [.bool false,.string ⟨#[]⟩,.int .i64 0] /\ ai dU (w.heap.size + 1) 30 [.bool (ar (dN Y)),.string (bs (nt (dN Y).natAbs)),.int .i64 (dE Y)] /\ ai dU (g) 30 [.bool (ar (dN D)),.string (bs (nt (dN D).natAbs)),.int .i64 (dE D)] /\ ai dU (wc.heap.size) 30 [.bool (ar (dN D)),.string (bs (nt (dN D).natAbs)),.int .i64 (dE D),.bool (ar (dN D)),.string (bs (nt (dN D).natAbs)),.int .i64 (dE D)] /\ ai dU (w7.heap.size) 30 [.bool (ar (dN X)),.string (bs (nt (dN X).natAbs)),.int .i64 (dE X),.bool (ar (dN E)),.string (bs (nt (dN E).natAbs)),.int .i64 (dE E)] /\ Bw w dU) ⟨(((Hr.out.so (w.heap.size + 1) 0 zo _).so (w.heap.size + 1) 1 zo _).so (w.heap.size + 1) 2 zo _),(((Hs.out.set 0 _).set 1 _).set 2 _),(((Hd.out.so (w.heap.size + 1) 0 zo _).so (w.heap.size + 1) 1 zo _).so (w.heap.size + 1) 2 zo _),(((ku.out.so (w.heap.size + 1) 0 zo _).so (w.heap.size + 1) 1 zo _).so (w.heap.size + 1) 2 zo _),(((rX.out.so (w.heap.size + 1) 0 zo _).so (w.heap.size + 1) 1 zo _).so (w.heap.size + 1) 2 zo _),by first | exact (((Hb.out.sc (w.heap.size + 1) 0 ZS _).sc (w.heap.size + 1) 1 ZS _).sc (w.heap.size + 1) 2 ZS _) | exact Below.drew (((Hb.out.sc (w.heap.size + 1) 0 ZS _).sc (w.heap.size + 1) 1 ZS _).sc (w.heap.size + 1) 2 ZS _)⟩ ?_;rintro dU ⟨qr,qs,qd,BL,BM,ae⟩;replace Hr:=ah qr;clear qr;replace Hs:=ah qs;clear qs;replace Hd:=ah qd;clear qd;replace ku:=ah BL;clear BL;replace rX:=ah BM;clear BM;obtain ⟨r0,r1,r2⟩:=Hr.out.c3;obtain ⟨s0,bY,s1,bZ,s2,cV⟩:=Hs.out.g3;obtain ⟨d0,d1,d2⟩:=Hd.out.c3;obtain ⟨tE,tF,tG,pK,pL,m15⟩:=ku.out.c6;obtain ⟨EU,EW,EX,EY,EZ,Fa⟩:=rX.out.c6;replace Hb:=ah ae;clear ae;simp only [aU];go_wp2;go_roundw;case rel=>exact ⟨k + 1,Y,by omega,by go_num,cd.out,Hr.out,Hs.out,Hb.out⟩
     case measure=>simp [intOf];omega
  . obtain rfl : k = n:=by omega
    have Hr:=ah pr;have Hs : Hid (ai wr (w.heap.size + 1) 30 [.bool (ar (dN X)),.string (bs (nt (dN X).natAbs)),.int .i64 (dE X)]):=ps;have HX:=ah hX;replace Hb:=ah pb;clear pr ps pb hX;obtain ⟨r0,aj,r1,ak,r2,aC⟩:=Hr.out.g3;obtain ⟨s0,s1,s2⟩:=Hs.out.c3;go_wp2;clear r0 aj r1 ak r2 aC s0 s1 s2;refine fO (fun w9=>ai w9 (w.heap.size) 30 [.bool (ar (dN X)),.string (bs (nt (dN X).natAbs)),.int .i64 (dE X)] /\ ai w9 (w.heap.size + 1) 30 [.bool (ar (dN X)),.string (bs (nt (dN X).natAbs)),.int .i64 (dE X)] /\ Bw w w9) ⟨(((Hr.out.set 0 _).set 1 _).set 2 _),(((Hs.out.so (w.heap.size) 0 zo _).so (w.heap.size) 1 zo _).so (w.heap.size) 2 zo _),(((Hb.out.sc (w.heap.size) 0 ZS _).sc (w.heap.size) 1 ZS _).sc (w.heap.size) 2 ZS _)⟩ ?_;rintro w9 ⟨qr,qs,ae⟩;replace Hr:=ah qr;clear qr;replace Hs:=ah qs;clear qs;obtain ⟨r0,aj,r1,ak,r2,aC⟩:=Hr.out.g3;obtain ⟨s0,s1,s2⟩:=Hs.out.c3;replace Hb:=ah ae;clear ae;refine bodyPost_ret (v:=bM X) (by simp [results,Tryz.results89,go_sem,r0,r1,r2]) rfl ⟨by rw [HX.out],Hb.out⟩
def eY (rows : List (List Raw)) (n a b : Nat) : Dyadic:=rK ((rows.getD a []).map aB) ((rows.getD b []).map aB) n
def Bj (sq : Nat -> Nat -> Dyadic) (a b : Nat) (s : Nat × Nat × Dyadic) : Nat × Nat × Dyadic:=if 0 < bR (sq a b - s.2.2) then (a,b,sq a b) else s
def vJ (sq : Nat -> Nat -> Dyadic) (a : Nat) : Nat -> Nat -> Nat × Nat × Dyadic -> Nat × Nat × Dyadic
 | 0,_,s=>s
 | k + 1,b,s=>vJ sq a k (b + 1) (Bj sq a b s)
def rE (sq : Nat -> Nat -> Dyadic) (L : Nat) : Nat -> Nat -> Nat × Nat × Dyadic -> Nat × Nat × Dyadic
 | 0,_,s=>s
 | k + 1,a,s=>rE sq L k (a + 1) (vJ sq a (L - (a + 1)) (a + 1) s)
def fI (sq : Nat -> Nat -> Dyadic) (L : Nat) : Nat × Nat × Dyadic:=rE sq L L 0 (0,1,sq 0 1)
theorem age (sq : Nat -> Nat -> Dyadic) (Q : Nat × Nat × Dyadic -> Prop) (L a k b : Nat) (s : Nat × Nat × Dyadic) (hs : Q s) (hab : a < b) (hb : b + k <= L) (h : ∀ a b,a < b -> b < L -> Q (a,b,sq a b)) : Q (vJ sq a k b s):=by
 induction k generalizing b s with
 | zero=>exact hs
 | succ k ih =>
   unfold vJ;refine ih (b + 1) _ ?_ zo zo;unfold Bj;split
   . exact h a b hab zo
   . exact hs
theorem agd (sq : Nat -> Nat -> Dyadic) (Q : Nat × Nat × Dyadic -> Prop) (L k a : Nat) (s : Nat × Nat × Dyadic) (hs : Q s) (hb : a + k <= L) (h : ∀ a b,a < b -> b < L -> Q (a,b,sq a b)) : Q (rE sq L k a s):=by
 induction k generalizing a s with
 | zero=>exact hs
 | succ k ih =>unfold rE;exact ih (a + 1) _ (age sq Q L a _ (a + 1) s hs zo zo h) zo
theorem Bi (sq : Nat -> Nat -> Dyadic) (L : Nat) (hL : 2 <= L) : (fI sq L).1 < (fI sq L).2.1 /\ (fI sq L).2.1 < L /\ (fI sq L).2.2 = sq (fI sq L).1 (fI sq L).2.1:=
 agd sq (fun s=>s.1 < s.2.1 /\ s.2.1 < L /\ s.2.2 = sq s.1 s.2.1) L L 0 (0,1,sq 0 1) ⟨Nat.zero_lt_one,hL,rfl⟩ zo (fun a b h1 h2=>⟨h1,h2,rfl⟩)
abbrev zX (s : Nat × Nat × Dyadic) : List Value:=[.int .i64 (s.1 : Int),.int .i64 (s.2.1 : Int),.bool (ar (dN s.2.2)),.string (bs (nt (dN s.2.2).natAbs)),.int .i64 (dE s.2.2)]
theorem At.drew {w : World} {a : Option Addr} {cs : List Value} (h : At w a cs) : At w.drew a cs:=h
theorem At.alloc {w : World} {a : Option Addr} {cs : List Value} (h : At w a cs) (o : Obj) : At (w.alloc o) a cs:=h.below zl
theorem aje (rows : List (List Raw)) (n B x y : Nat) (a : Option Addr) (cap : Nat) (a' : Option Addr) (cap' : Nat) (D : Dyadic) (w : World) (hx : x < rows.length) (hy : y < rows.length) (hn : n <= 8) (hrow : ∀ r ∈ rows,r.length = n) (hfit : ∀ r ∈ rows,∀ c ∈ r,Fit B c) (hB : B <= 10000000)
 (hD : eY rows n x y = D) (ha : At w a (rows[x].flatMap bF)) (ha' : At w a' (rows[y].flatMap bF)) (hT : az w) :
 Calls Tryz.prog 89 #[.slice a rows[x].length cap,.slice a' rows[y].length cap'] w fun e w'=>e = .returned (bM D) /\ Bw w w':=by
 have h1:=hrow _ (List.getElem_mem hx);have h2:=hrow _ (List.getElem_mem hy);have e1 : rows.getD x [] = rows[x]:=by simp [hx]
 have e2 : rows.getD y [] = rows[y]:=by simp [hy]
 unfold eY at hD;rw [e1,e2] at hD;rw [h1,h2,<- hD];exact ajd a n cap rows[x] a' cap' rows[y] B w h1 h2 hn ha ha' (hfit _ (List.getElem_mem hx)) (hfit _ (List.getElem_mem hy)) hB hT
theorem ajc {rows : List (List Raw)} {n B : Nat} (hfit : ∀ r ∈ rows,∀ c ∈ r,Fit B c) (x y : Nat) : Sm (2 * B + 2 + n) (eY rows n x y):=by
 have h : ∀ z,∀ c ∈ (rows.getD z []).map aB,Sm B c:=fun z c hc=>by
  obtain ⟨u,hu,rfl⟩:=List.mem_map.1 hc;by_cases hz : z < rows.length
  . have e : rows.getD z [] = rows[z]:=by simp [hz]
    rw [e] at hu;exact (hfit _ (List.getElem_mem hz) u hu).2
  . have e : rows.getD z [] = []:=by simp [List.getD_eq_getElem?_getD,List.getElem?_eq_none (by omega : rows.length <= z)]
    rw [e] at hu;cases hu
 exact Wl (h x) (h y) n
theorem agi (a : Option Addr) (L cap n : Nat) (rows : List (List Raw)) (B : Nat) (w : World) (hL : rows.length = L) (hL2 : 2 <= L) (Jz : L <= 9) (hn : n <= 8) (hrow : ∀ r ∈ rows,r.length = n) (ha : aW w a rows)
 (hfit : ∀ r ∈ rows,∀ c ∈ r,Fit B c) (hB : B <= 10000000) (hT : az w) :
 Calls Tryz.prog 47 #[.slice a L cap] w fun e w'=>e = .returned (.agg (zX (fI (eY rows n) L)).toArray) /\ Bw w w':=by
 obtain ⟨sq,td⟩ : ∃ sq,eY rows n = sq:=⟨_,rfl⟩;have hsm : ∀ x y,Sm (2 * B + 10) (sq x y):=fun x y=>by rw [<- td];exact (ajc hfit x y).mono zo
 have hcall : ∀ x y (hx : x < rows.length) (hy : y < rows.length) (a1 : Option Addr) (c1 : Nat) (a2 : Option Addr) (c2 : Nat) (W : World),At W a1 (rows[x].flatMap bF) -> At W a2 (rows[y].flatMap bF) -> az W ->
  Calls Tryz.prog 89 #[.slice a1 rows[x].length c1,.slice a2 rows[y].length c2] W fun e w'=>e = .returned (bM (sq x y)) /\ Bw W w':=fun x y hx hy a1 c1 a2 c2 W h1 h2 h3=>
  aje rows n B x y a1 c1 a2 c2 (sq x y) W hx hy hn hrow hfit hB (by rw [<- td]) h1 h2 h3
 obtain ⟨F,hF⟩ : ∃ F,fI (eY rows n) L = F:=⟨_,rfl⟩;rw [hF];rw [td] at hF;have HL:=ah hL;have Ha:=ah ha;have OO:=ah hsm;have jI:=ah hcall;have HF:=ah hF;have HT:=ah hT;have ez:=ah hT;clear hL ha hsm hcall hF hT hfit hrow td;obtain ⟨X,hX⟩ : ∃ X,sq 0 1 = X:=⟨_,rfl⟩;have HX:=ah hX;clear hX;obtain ⟨W,aK⟩ : ∃ W,(w.alloc (.cells #[.int .i64 0,.int .i64 0,.bool false,.string ⟨#[]⟩,.int .i64 0] 83)) = W:=⟨_,rfl⟩;have Hb : Hid (Bw w W):=by rw [<- aK];exact zl
 have Hr : Hid (ai W (w.heap.size) 83 [.int .i64 0,.int .i64 0,.bool false,.string ⟨#[]⟩,.int .i64 0]):=by rw [<- aK];exact ai.newAt _ _ _ zm
 obtain ⟨r0,aj,r1,ak,r2,aC,r3,cC,r4,cO⟩:=Hr.out.g5;have HT : Hid (az W):=HT.out.below Hb.out;have HS : Hid (aW W a rows):=Ha.out.below Hb.out;go_enter Tryz.func47,Tryz.ntmps47;have lr:=Hr.out.lt;obtain ⟨b0,o0,a1,c1,gy,hc0,iq⟩:=HS.out.row 0 (by rw [HL.out];omega);obtain ⟨iz,jB,a2,c2,dM,hc1,jP⟩:=HS.out.row 1 (by rw [HL.out];omega);obtain ⟨rfl,rfl⟩ : iz = b0 /\ jB = o0:=by rw [gy] at dM;simp at dM;exact ⟨dM.1.symm,dM.2.symm⟩
 clear dM;have i0:=kI L cap 0 0 gy zo rfl;have i1:=kI L cap 1 1 gy zo rfl;rw [Nat.mul_one] at i0 i1;rw [Nat.add_zero] at i0 hc0;have jG:=ah gy;have vH : iz < W.heap.size:=World.block_lt_of_cell? W _ hc0;have rB:=fun W'=>jI.out 0 1 (by rw [HL.out];omega) (by rw [HL.out];omega) a1 c1 a2 c2 W';rw [HX.out] at rB;obtain ⟨n0,hn0⟩ : ∃ n0,(rows[0]'(by rw [HL.out];omega)).length = n0:=⟨_,rfl⟩;obtain ⟨n1,eU⟩ : ∃ n1,(rows[1]'(by rw [HL.out];omega)).length = n1:=⟨_,rfl⟩;rw [hn0] at hc0;rw [eU] at hc1;simp only [hn0,eU] at rB;have uB:=ah rB;have iw:=ah iq;have kQ:=ah jP;have Hu : Hid (bo W iz jB [.slice a1 n0 c1]):=fun j hj=>by
  obtain rfl : j = 0:=by simp at hj;omega
  exact hc0
 have Hv : Hid (bo W iz (jB + 1) [.slice a2 n1 c2]):=fun j hj=>by
  obtain rfl : j = 0:=by simp at hj;omega
  exact hc1
 clear rB iq jP gy hn0 eU hc0 hc1;go_upto_region 1 with fail
 go_cut [3] (fun s3 wx=>∃ g : Nat,s3 = .pointer (some ⟨g,0,none⟩) /\ W.heap.size <= g /\ ai wx g 83 (zX (0,1,X)) /\ Bw W wx);case first=>
  have u0:=Hu.out.w1;have v0:=Hv.out.w1;have HT : Hid (az W):=HT.out;refine MS (fun w'=>w'.cell? ⟨iz,jB,none⟩ = some (.slice a1 n0 c1) /\ w'.cell? ⟨iz,jB + 1,none⟩ = some (.slice a2 n1 c2)) (fun i=>Nat.blt i 10) 7 9 [(8,true),(9,false),(10,false)] [(7,false),(8,true),(10,false)] [0,1,2,3,4,5,6] zk zk rfl rfl zk zc ⟨u0,v0⟩ ?_;iterate 7 (refine LZ rfl rfl (v:=?_) (fun w' hw'=>?_) ?_;rotate_left;(focus obtain ⟨q0,q1⟩:=hw';go_simp;try with_reducible rfl);try simp only [UU])
  refine LV rfl rfl rfl rfl (fun K hK=>?_) (fun K hK=>?_)
  . go_simp;with_reducible refine (uB.out _ (by first | exact iw.out | exact At.drew iw.out) (by first | exact kQ.out | exact At.drew kQ.out) (by first | exact HT.out | exact az.drew HT.out | exact az.alloc HT.out _ | exact az.drew (az.alloc HT.out _) | exact az.alloc (az.drew HT.out) _)).mono ?_
    rintro e w5 ⟨rfl,hq⟩;have cF : Bw W w5:=aM hq;refine hK _ _ ⟨cell_later cF u0,cell_later cF v0⟩ ?_;try simp only [UU]
    refine pT rfl rfl ?_;try simp only [UU]
    refine aH rfl rfl (fun K hK=>?_);go_simp;refine hK _ _ (fun _=>⟨aG (cell_later cF u0),aG (cell_later cF v0)⟩) ?_;try simp only [UU]
    refine aH rfl rfl (fun K hK=>?_);go_simp;refine hK _ _ (fun h=>absurd h zd) ?_;simp only [aU];go_wp2_with fail;go_meet;exact ⟨w5.heap.size,rfl,cF.size,ai.new _ _ _,cF.alloc cF.size _⟩
  . go_simp;refine hK _ _ ⟨aG u0,aG v0⟩ ?_;try simp only [UU]
    refine aH rfl rfl (fun K hK=>?_);go_simp;with_reducible refine (uB.out (W.alloc (.cells #[.int .i64 0,.int .i64 0,.bool false,.string ⟨#[]⟩,.int .i64 0] 83)).drew (iw.out.alloc _).drew (kQ.out.alloc _).drew (by first | exact HT.out | exact az.drew HT.out | exact az.alloc HT.out _ | exact az.drew (az.alloc HT.out _) | exact az.alloc (az.drew HT.out) _)).mono ?_
    rintro e w5 ⟨rfl,hq⟩;have cF : Bw W w5:=nQ hq;have Hn : ai w5 W.heap.size 83 [.int .i64 0,.int .i64 0,.bool false,.string ⟨#[]⟩,.int .i64 0]:=ai.below (ai.new W.drew 83 [.int .i64 0,.int .i64 0,.bool false,.string ⟨#[]⟩,.int .i64 0]) hq;have n0':=Hn.cell 0;have vO:=Hn.cell 1;have vP:=Hn.cell 2;have n3':=Hn.cell 3;have n4':=Hn.cell 4;have fe:=Hn.free 0;have fg:=Hn.free 1;have fh:=Hn.free 2;have fG:=Hn.free 3;have fH:=Hn.free 4;refine hK _ _ (fun _=>⟨cell_later cF u0,cell_later cF v0⟩) ?_;try simp only [UU]
    refine pT rfl rfl ?_;try simp only [UU]
    refine aH rfl rfl (fun K hK=>?_);go_simp;refine hK _ _ (fun h=>absurd h zd) ?_;simp only [aU];go_wp2_with fail;go_meet;exact ⟨W.heap.size,rfl,Nat.le_refl _,((((Hn.set 0 _).set 1 _).set 2 _).set 3 _).set 4 _,((((cF.sc W.heap.size 0 (Nat.le_refl _) _).sc W.heap.size 1 (Nat.le_refl _) _).sc W.heap.size 2 (Nat.le_refl _) _).sc W.heap.size 3 (Nat.le_refl _) _).sc W.heap.size 4 (Nat.le_refl _) _⟩
 case rest=>
  obtain ⟨g,rfl,hg,qd,qb⟩:=hcut;have Hd:=ah qd;replace Hr:=ah (Hr.out.below qb);replace Hb:=ah (aI Hb.out qb);have lg:=Hd.out.lt;have lr2:=Hr.out.lt;have szW:=qb.size;clear qd qb r0 r1 r2 r3 r4 aj ak aC cC cO i0 i1 uB iw kQ Hu Hv jG HS HT;have NG : Hid (Sm (2 * B + 10) X):=by rw [<- HX.out];exact OO.out 0 1
  have Nk : Hid (rE sq L (L - 0) 0 (0,1,X) = F):=by rw [<- HX.out];exact HF.out
  go_wp2_with fail;go_loopw [18] (fun x wr=>∃ (k : Nat) (s : Nat × Nat × Dyadic),k <= L /\ x = .int .i64 (k : Int) /\ rE sq L (L - k) k s = F /\ Sm (2 * B + 10) s.2.2 /\ ai wr w.heap.size 83 [.int .i64 0,.int .i64 0,.bool false,.string ⟨#[]⟩,.int .i64 0] /\ ai wr g 83 (zX s) /\ Bw w wr) (fun x _=>L - (intOf x).toNat);case atStart=>exact ⟨0,(0,1,X),Nat.zero_le _,rfl,Nk.out,NG.out,Hr.out,Hd.out,Hb.out⟩
  case round=>
   clear Hr Hd Hb Nk NG;obtain ⟨k,s,hk,rfl,hF,hs,pr,pd,pb⟩:=hrel;by_cases hlt : k < L
   . have Hr:=ah pr;have Hd:=ah pd;have Hb:=ah pb;have Hs:=ah hs;have Nn : Hid (rE sq L (L - (k + 1)) (k + 1) (vJ sq k (L - (k + 1)) (k + 1) s) = F):=by rw [show L - k = L - (k + 1) + 1 by omega] at hF;exact hF
     clear pr pd pb hs hF;go_wp2_with fail;go_loopw [5] (fun x wr=>∃ (b : Nat) (s : Nat × Nat × Dyadic),b <= L /\ k < b /\ x = .int .i64 (b : Int) /\ rE sq L (L - (k + 1)) (k + 1) (vJ sq k (L - b) b s) = F /\ Sm (2 * B + 10) s.2.2 /\ ai wr w.heap.size 83 [.int .i64 0,.int .i64 0,.bool false,.string ⟨#[]⟩,.int .i64 0] /\ ai wr g 83 (zX s) /\ Bw w wr) (fun x _=>L - (intOf x).toNat);case atStart=>exact ⟨k + 1,s,by omega,by omega,by go_num,Nn.out,Hs.out,Hr.out,Hd.out,Hb.out⟩
     case round=>
      clear Hr Hd Hb Nn Hs;obtain ⟨b,s,hb1,hb2,rfl,hF,hs,pr,pd,pb⟩:=hrel;have Hr:=ah pr;have Hd:=ah pd;have Hb:=ah pb;have Hs:=ah hs;have Nl:=ah hF;clear pr pd pb hs hF;by_cases bi : b < L
      . obtain ⟨b0,o0,a1,c1,gy,hc0,iq⟩:=(Ha.out.below Hb.out).row k (by rw [HL.out];omega);obtain ⟨iz,jB,a2,c2,dM,hc1,jP⟩:=(Ha.out.below Hb.out).row b (by rw [HL.out];omega);obtain ⟨rfl,rfl⟩ : iz = b0 /\ jB = o0:=by rw [gy] at dM;simp at dM;exact ⟨dM.1.symm,dM.2.symm⟩
        clear dM;have i0:=kI L cap k (k : Int) gy hlt rfl;have i1:=kI L cap b (b : Int) gy bi rfl;rw [Nat.mul_one] at i0 i1;have rB:=fun W'=>jI.out k b (by rw [HL.out];omega) (by rw [HL.out];omega) a1 c1 a2 c2 W';obtain ⟨Y,hY⟩ : ∃ Y,sq k b = Y:=⟨_,rfl⟩;have JU:=OO.out k b;rw [hY] at rB JU;obtain ⟨n0,hn0⟩ : ∃ n0,(rows[k]'(by rw [HL.out];omega)).length = n0:=⟨_,rfl⟩;obtain ⟨n1,eU⟩ : ∃ n1,(rows[b]'(by rw [HL.out];omega)).length = n1:=⟨_,rfl⟩;rw [hn0] at hc0;rw [eU] at hc1;simp only [hn0,eU] at rB;have uB:=ah rB;have iw:=ah iq;have kQ:=ah jP;have HY:=ah hY;have NI:=ah JU;have HT:=ah (ez.out.below Hb.out);have Hu : Hid (bo wr iz (jB + k) [.slice a1 n0 c1]):=fun j hj=>by
         obtain rfl : j = 0:=by simp at hj;omega
         exact hc0
        have Hv : Hid (bo wr iz (jB + b) [.slice a2 n1 c2]):=fun j hj=>by
         obtain rfl : j = 0:=by simp at hj;omega
         exact hc1
        clear rB iq jP gy hn0 eU hc0 hc1 hY JU;have ls1:=Hr.out.lt;have ls2:=Hd.out.lt;go_upto_region 8 with fail
        go_cut [6] (fun s6 wx=>∃ g' : Nat,s6 = .pointer (some ⟨g',0,none⟩) /\ wr.heap.size <= g' /\ ai wx g' 30 [.bool (ar (dN Y)),.string (bs (nt (dN Y).natAbs)),.int .i64 (dE Y)] /\ Bw wr wx);case first=>
         have u0:=Hu.out.w1;have v0:=Hv.out.w1;refine MS (fun w'=>w'.cell? ⟨iz,jB + k,none⟩ = some (.slice a1 n0 c1) /\ w'.cell? ⟨iz,jB + b,none⟩ = some (.slice a2 n1 c2)) (fun i=>Nat.blt i 10) 8 9 [(9,false),(10,false)] [(8,false),(10,false)] [0,1,2,3,4,5,6,7] zk zk rfl rfl zk zc ⟨u0,v0⟩ ?_;iterate 8 (refine LZ rfl rfl (v:=?_) (fun w' hw'=>?_) ?_;rotate_left;(focus obtain ⟨q0,q1⟩:=hw';go_simp;try with_reducible rfl);try simp only [UU])
         refine LV rfl rfl rfl rfl (fun K hK=>?_) (fun K hK=>?_)
         . go_simp;with_reducible refine (uB.out _ (by first | exact iw.out | exact At.drew iw.out) (by first | exact kQ.out | exact At.drew kQ.out) (by first | exact HT.out | exact az.drew HT.out | exact az.alloc HT.out _ | exact az.drew (az.alloc HT.out _) | exact az.alloc (az.drew HT.out) _)).mono ?_
           rintro e w5 ⟨rfl,hq⟩;have cF : Bw wr w5:=aM hq;refine hK _ _ ⟨cell_later cF u0,cell_later cF v0⟩ ?_;try simp only [UU]
           refine aH rfl rfl (fun K hK=>?_);go_simp;refine hK _ _ (fun _=>⟨aG (cell_later cF u0),aG (cell_later cF v0)⟩) ?_;try simp only [UU]
           refine aH rfl rfl (fun K hK=>?_);go_simp;refine hK _ _ (fun h=>absurd h zd) ?_;simp only [aU];go_wp2_with fail;go_meet;exact ⟨w5.heap.size,rfl,cF.size,ai.new _ _ _,cF.alloc cF.size _⟩
         . go_simp;refine hK _ _ ⟨aG u0,aG v0⟩ ?_;try simp only [UU]
           refine aH rfl rfl (fun K hK=>?_);go_simp;with_reducible refine (uB.out (wr.alloc (.cells #[.bool false,.string ⟨#[]⟩,.int .i64 0] 30)).drew (iw.out.alloc _).drew (kQ.out.alloc _).drew (by first | exact HT.out | exact az.drew HT.out | exact az.alloc HT.out _ | exact az.drew (az.alloc HT.out _) | exact az.alloc (az.drew HT.out) _)).mono ?_
           rintro e w5 ⟨rfl,hq⟩;have cF : Bw wr w5:=nQ hq;have Hn : ai w5 wr.heap.size 30 [.bool false,.string ⟨#[]⟩,.int .i64 0]:=ai.below (ai.new wr.drew 30 [.bool false,.string ⟨#[]⟩,.int .i64 0]) hq;obtain ⟨n0',fe,vO,fg,vP,fh⟩:=Hn.g3;refine hK _ _ (fun _=>⟨cell_later cF u0,cell_later cF v0⟩) ?_;try simp only [UU]
           refine aH rfl rfl (fun K hK=>?_);go_simp;refine hK _ _ (fun h=>absurd h zd) ?_;simp only [aU];go_wp2_with fail;go_meet;exact ⟨wr.heap.size,rfl,Nat.le_refl _,((Hn.set 0 _).set 1 _).set 2 _,((cF.sc wr.heap.size 0 (Nat.le_refl _) _).sc wr.heap.size 1 (Nat.le_refl _) _).sc wr.heap.size 2 (Nat.le_refl _) _⟩
        case rest=>
         obtain ⟨g',rfl,hg',qn,qb⟩:=hcut;have Hn:=ah qn;replace Hr:=ah (Hr.out.below qb);replace Hd:=ah (Hd.out.below qb);replace Hb:=ah (aI Hb.out qb);have cE:=ah (HT.out.below qb);clear qn qb Hu Hv iw kQ uB HT i0 i1;obtain ⟨si,sj,sx⟩:=s;have Yh : Hid (Ok (ar (dN Y),nt (dN Y).natAbs,dE Y)):=(NI.out.fit zo).1;have yO : Hid (Ok (ar (dN sx),nt (dN sx).natAbs,dE sx)):=(Hs.out.fit zo).1;obtain ⟨c,hc⟩ : ∃ c,bR (Y - sx) = c:=⟨_,rfl⟩;have HC : Hid (bR (aB (ar (dN Y),nt (dN Y).natAbs,dE Y) - aB (ar (dN sx),nt (dN sx).natAbs,dE sx)) = c):=by
          show bR (aB (canon Y) - aB (canon sx)) = c
          rw [bU,bU];exact hc
         have Np : Hid (rE sq L (L - (k + 1)) (k + 1) (vJ sq k (L - (b + 1)) (b + 1) (Bj sq k b (si,sj,sx))) = F):=by have h:=Nl.out;rw [show L - b = L - (b + 1) + 1 by omega] at h;exact h
         have hstep : Bj sq k b (si,sj,sx) = if 0 < c then (k,b,Y) else (si,sj,sx):=by
          unfold Bj;rw [HY.out];show (if 0 < bR (Y - sx) then _ else _) = _
          rw [hc]
         have gg:=ah hstep;clear hc hstep;obtain ⟨d0,Jf,d1,Jg,d2,Jh,d3,Qu,d4,Qv⟩:=Hd.out.g5;obtain ⟨n0,n1,n2⟩:=Hn.out.c3;obtain ⟨r0,r1,r2,r3,r4⟩:=Hr.out.c5;go_wp2_with fail;refine (acx _ _ _ _ _ _ c HC.out _ Yh.out yO.out cE.out).mono ?_;rintro e w7 ⟨rfl,ae⟩;clear d0 Jf d1 Jg d2 Jh d3 Qu d4 Qv n0 n1 n2 r0 r1 r2 r3 r4;replace Hd:=kB Hd ae;replace Hn:=kB Hn ae;replace Hr:=kB Hr ae;obtain ⟨d0,Jf,d1,Jg,d2,Jh,d3,Qu,d4,Qv⟩:=Hd.out.g5;obtain ⟨n0,n1,n2⟩:=Hn.out.c3;obtain ⟨r0,r1,r2,r3,r4⟩:=Hr.out.c5;replace Hb:=au Hb ae;clear ae;by_cases hc0 : 0 < c
         . go_wp2;go_roundw;case rel=>
            refine ⟨b + 1,(k,b,Y),by omega,by omega,by go_num,?_,NI.out,?_,?_,?_⟩
            . have h:=Np.out;rw [gg.out,if_pos hc0] at h;exact h
            . exact ((((Hr.out.so g 0 zo _).so g 1 zo _).so g 2 zo _).so g 3 zo _).so g 4 zo _
            . exact ((((Hd.out.set 0 _).set 1 _).set 2 _).set 3 _).set 4 _
            . exact ((((Hb.out.sc g 0 zo _).sc g 1 zo _).sc g 2 zo _).sc g 3 zo _).sc g 4 zo _
           case measure=>simp [intOf];omega
         . go_wp2;go_roundw;case rel=>refine ⟨b + 1,(si,sj,sx),by omega,by omega,by go_num,?_,Hs.out,Hr.out,Hd.out,Hb.out⟩;have h:=Np.out;rw [gg.out,if_neg zo] at h;exact h
           case measure=>simp [intOf];omega
      . obtain rfl : b = L:=by omega
        go_wp2;go_roundw;case rel=>refine ⟨k + 1,s,by omega,by go_num,?_,Hs.out,Hr.out,Hd.out,Hb.out⟩;have h:=Nl.out;rw [Nat.sub_self] at h;exact h
        case measure=>simp [intOf];omega
   . obtain rfl : k = L:=by omega
     rw [Nat.sub_self] at hF;have Xj : Hid (s = F):=hF;obtain ⟨si,sj,sx⟩:=s;have Hr:=ah pr;have Hd:=ah pd;have Hb:=ah pb;clear pr pd pb hF hs;obtain ⟨d0,d1,d2,d3,d4⟩:=Hd.out.c5;obtain ⟨r0,aj,r1,ak,r2,aC,r3,cC,r4,cO⟩:=Hr.out.g5;go_wp2;clear d0 d1 d2 d3 d4 r0 aj r1 ak r2 aC r3 cC r4 cO;refine fO (fun w9=>ai w9 (g) 83 [.int .i64 (si : Int),.int .i64 (sj : Int),.bool (ar (dN sx)),.string (bs (nt (dN sx).natAbs)),.int .i64 (dE sx)] /\ ai w9 (w.heap.size) 83 [.int .i64 (si : Int),.int .i64 (sj : Int),.bool (ar (dN sx)),.string (bs (nt (dN sx).natAbs)),.int .i64 (dE sx)] /\ Bw w w9) ⟨(((((Hd.out.so (w.heap.size) 0 zo _).so (w.heap.size) 1 zo _).so (w.heap.size) 2 zo _).so (w.heap.size) 3 zo _).so (w.heap.size) 4 zo _),(((((Hr.out.set 0 _).set 1 _).set 2 _).set 3 _).set 4 _),(((((Hb.out.sc (w.heap.size) 0 ZS _).sc (w.heap.size) 1 ZS _).sc (w.heap.size) 2 ZS _).sc (w.heap.size) 3 ZS _).sc (w.heap.size) 4 ZS _)⟩ ?_;rintro w9 ⟨qd,qr,ae⟩;replace Hd:=ah qd;clear qd;replace Hr:=ah qr;clear qr;obtain ⟨d0,d1,d2,d3,d4⟩:=Hd.out.c5;obtain ⟨r0,aj,r1,ak,r2,aC,r3,cC,r4,cO⟩:=Hr.out.g5;replace Hb:=ah ae;clear ae;refine bodyPost_ret (v:=.agg (zX (si,sj,sx)).toArray) (by simp [results,Tryz.results47,go_sem,r0,r1,r2,r3,r4]) rfl ⟨by rw [<- Xj.out],Hb.out⟩
theorem Tryz.anS : (Tryz.prog.info? 46).map (fun i=>(i.zero,i.size,i.bytes)) = some (some (.slice none 0 0),1,24):=by kernel_rfl
def iR (r : List Raw) : List Raw:=r.map fun x=>canon (aB x)
theorem Qy (r : List Raw) : (iR r).length = r.length:=by simp [iR]
theorem adE (r : List Raw) : (iR r).flatMap bF = dC (r.map aB):=by rw [sB,List.map_map];rfl
def Own2 (e : TypeId) (w : World) (base : Nat) (R : List (List Dyadic)) (k : Nat) (v : Value) : Prop:=
 ∃ vals : List Value,vals.length = k /\ w.ownsRow base e 1 v k vals /\ ∀ i (h : i < vals.length),∃ a c,vals[i] = .slice a (R.getD i []).length c /\ At w a (dC (R.getD i [])) /\ ∀ b o,a = some ⟨b,o,none⟩ -> some b ≠ v.ownBlock /\ b < w.heap.size
theorem Own2.nil (e : TypeId) (w : World) (base : Nat) (R : List (List Dyadic)) : Own2 e w base R 0 (.slice none 0 0):=
 ⟨[],rfl,World.ownsRow_nil _ _ _ _,fun _ h=>absurd h (Nat.not_lt_zero _)⟩
theorem Own2.below {e : TypeId} {w w' : World} {base k : Nat} {R : List (List Dyadic)} {v : Value} (h : Own2 e w base R k v) (hb : Bw w w') : Own2 e w' base R k v:=by obtain ⟨vals,hl,ho,hi⟩:=h;refine ⟨vals,hl,ownsRow_below ho hb,fun i h=>?_⟩;obtain ⟨a,c,h1,h2,h3⟩:=hi i h;exact ⟨a,c,h1,h2.below hb,fun b o e=>⟨(h3 b o e).1,Nat.lt_of_lt_of_le (h3 b o e).2 hb.size⟩⟩
theorem Own2.push {e : TypeId} {w w' : World} {base k : Nat} {R : List (List Dyadic)} {v v' : Value} {vals : List Value} (hl : vals.length = k) (hi : ∀ i (h : i < vals.length),∃ a c,vals[i] = .slice a (R.getD i []).length c /\ At w a (dC (R.getD i [])) /\ ∀ b o,a = some ⟨b,o,none⟩ -> some b ≠ v.ownBlock /\ b < w.heap.size)
 {a : Option Addr} {c : Nat} (ha : At w a (dC (R.getD k []))) (hab : ∀ b o,a = some ⟨b,o,none⟩ -> some b ≠ v.ownBlock /\ b < w.heap.size)
 (ho : w'.ownsRow base e 1 v' (k + 1) (vals ++ [.slice a (R.getD k []).length c])) (hg : w.grownBy w' v.ownBlock) (fR : v'.ownBlock = v.ownBlock \/ v'.ownBlock = some w.heap.size) : Own2 e w' base R (k + 1) v':=by
 have hne : ∀ b,some b ≠ v.ownBlock -> b < w.heap.size -> some b ≠ v'.ownBlock:=by
  intro b h1 h2;rcases fR with h | h
  . rw [h];exact h1
  . rw [h];intro h3;simp at h3;omega
 refine ⟨_,by simp [hl],ho,fun i h=>?_⟩;by_cases hk : i < vals.length
 . obtain ⟨a1,c1,h1,h2,h3⟩:=hi i hk;refine ⟨a1,c1,by rw [List.getElem_append_left hk];exact h1,h2.grown hg (fun b o e=>(h3 b o e).1),fun b o e=>⟨hne b (h3 b o e).1 (h3 b o e).2,Nat.lt_of_lt_of_le (h3 b o e).2 hg.size⟩⟩
 . have hik : i = k:=by simp at h;omega
   subst hik;refine ⟨a,c,?_,ha.grown hg (fun b o e=>(hab b o e).1),fun b o e=>⟨hne b (hab b o e).1 (hab b o e).2,Nat.lt_of_lt_of_le (hab b o e).2 hg.size⟩⟩;rw [List.getElem_append_right zo];simp [hl]
theorem Fi {W : World} {base : Nat} {e : TypeId} {size : Nat} {a : Option Addr} {n c : Nat} {xs : List Value} (h : W.ownsRow base e size (.slice a n c) n xs) : n <= c:=by
 rcases h.2 with ⟨h1,h2⟩ | ⟨g,cap,cur,h1,_,_,h2,_⟩
 . omega
 . simp at h1;omega
theorem Own2.tbl {e : TypeId} {w : World} {base k : Nat} {R : List (List Raw)} {v : Value} (h : Own2 e w base (R.map fun r=>r.map aB) k v) (hk : R.length = k) : ∃ a c,v = .slice a k c /\ k <= c /\ aW w a (R.map iR):=by
 obtain ⟨vals,hl,ho,hi⟩:=h;obtain ⟨a,c,hv,hat,_⟩:=dG ho;subst hv;refine ⟨a,c,rfl,Fi ho,vals,by simp [hl,hk],hat,fun i h1 h2=>?_⟩;obtain ⟨a1,c1,e1,e2,_⟩:=hi i h2;have hi1 : i < R.length:=by simpa using h1
 have eg : (R.map fun r=>r.map aB).getD i [] = R[i].map aB:=by simp [hi1]
 rw [eg] at e1 e2;refine ⟨a1,c1,?_,?_⟩
 . rw [e1];simp [Qy]
 . rw [List.getElem_map,adE];exact e2
theorem aj8 (a : Option Addr) (L cap : Nat) (rows : List (List Raw)) (k0 : Nat) (pa : Option Addr) (pn pS : Nat) (Pp : List Raw) (w : World) (hL : rows.length = L) (Jz : L <= 9) (hP : Pp.length = pn) (Rc : pn <= 8) (hrow : ∀ r ∈ rows,r.length <= 8) (ha : aW w a rows) (hp : At w pa (Pp.flatMap bF))
 (hok : ∀ r ∈ rows,∀ x ∈ r,Ok x) (EE : ∀ x ∈ Pp,Ok x) (hT : az w) (at9 : Int) (sG : ∀ k : Nat,k < L -> ((k : Int) = at9 ↔ k = k0)) :
 Calls Tryz.prog 48 #[.slice a L cap,.int .i64 at9,.slice pa pn pS] w fun e w'=>∃ a' cap',e = .returned (.slice a' L cap') /\ L <= cap' /\ aW w' a' ((rows.set k0 Pp).map iR) /\ Bw w w':=by
 obtain ⟨i0,hi,hz0,hz1,hz2⟩:=info_parts Tryz.anG;obtain ⟨j0,hj,hy0,hy1,hy2⟩:=info_parts Tryz.anS;obtain ⟨R,hR⟩ : ∃ R,rows.set k0 Pp = R:=⟨_,rfl⟩;obtain ⟨S,hS⟩ : ∃ S,(R.map fun r=>r.map aB) = S:=⟨_,rfl⟩;have Rp : R.length = L:=by rw [<- hR];simp [hL]
 have Ro : ∀ r ∈ R,r.length <= 8:=by
  intro r hr;rw [<- hR] at hr;rcases List.mem_or_eq_of_mem_set hr with h | h
  . exact hrow r h
  . rw [h];omega
 have Rq : ∀ r ∈ R,∀ x ∈ r,Ok x:=by
  intro r hr;rw [<- hR] at hr;rcases List.mem_or_eq_of_mem_set hr with h | h
  . exact hok r h
  . rw [h];exact EE
 have sZ : ∀ (W : World) (k : Nat) (hk : k < L),Bw w W -> ∃ b o a1 c1 n1 aq cq,∃ (hk2 : k < R.length),a = some ⟨b,o,none⟩ /\ W.cell? ⟨b,o + k,none⟩ = some (.slice a1 n1 c1) /\ At W aq (R[k].flatMap bF) /\ ((k = k0 /\ aq = pa /\ R[k].length = pn /\ cq = pS) \/ (k ≠ k0 /\ aq = a1 /\ R[k].length = n1 /\ cq = c1)):=by
  intro W k hk hb;obtain ⟨b,o,a1,c1,h1,h2,h3⟩:=(ha.below hb).row k zo;by_cases hkk : k = k0
  . refine ⟨b,o,a1,c1,_,pa,pS,by omega,h1,h2,?_,.inl ⟨hkk,rfl,?_,rfl⟩⟩
    . have : R[k]'zo = Pp:=by simp only [<- hR,hkk,List.getElem_set_self]
      rw [this];exact hp.below hb
    . have : R[k]'zo = Pp:=by simp only [<- hR,hkk,List.getElem_set_self]
      rw [this];exact hP
  . have : R[k]'zo = rows[k]'zo:=by simp only [<- hR];exact List.getElem_set_ne (fun h=>hkk h.symm) _
    refine ⟨b,o,a1,c1,_,a1,c1,by omega,h1,h2,?_,.inr ⟨hkk,rfl,by rw [this],rfl⟩⟩;rw [this];exact h3
 rw [hR];have Hi:=ah hi;have cM:=ah hz0;have cN:=ah hz1;have cH:=ah hz2;have Hj:=ah hj;have jL:=ah hy0;have lN:=ah hy1;have lO:=ah hy2;have HS:=ah hS;have Xz:=ah Rp;have Xy:=ah Ro;have XA:=ah Rq;have Ia:=ah sZ;have HT:=ah hT;have NJ:=ah sG;clear hi hz0 hz1 hz2 hj hy0 hy1 hy2 hR hS Rp Ro Rq sZ ha hp hT hL hP hrow hok EE sG;go_enter Tryz.func48,Tryz.ntmps48;have Hb : Hid (Bw w w):=Below.refl _ _;go_wp2_with fail;go_loopw [7,15] (fun s7 x wr=>∃ (k : Nat) (v : Value),k <= L /\ x = .int .i64 (k : Int) /\ v = s7 /\ Own2 46 wr w.heap.size S k v /\ Bw w wr) (fun _ x _=>L - (intOf x).toNat);case atStart=>exact ⟨0,_,Nat.zero_le _,rfl,rfl,Own2.nil _ _ _ _,Hb.out⟩
 case round=>
  clear Hb;obtain ⟨k,v,hk,rfl,rfl,pv,pb⟩:=hrel;by_cases hlt : k < L
  . obtain ⟨b1,o1,a1,c1,n1,aq,cq,hk2,hab,hc1,hat,sV⟩:=Ia.out wr k hlt pb;have kG:=kI L cap k (k : Int) hab hlt rfl;rw [Nat.mul_one] at kG;obtain ⟨Q,hQ⟩ : ∃ Q,R[k] = Q:=⟨_,rfl⟩;rw [hQ] at hat sV;have JF:=Xy.out _ (List.getElem_mem hk2);have JG:=XA.out _ (List.getElem_mem hk2);rw [hQ] at JF JG;obtain ⟨Z,hZ⟩ : ∃ Z,Q.map aB = Z:=⟨_,rfl⟩;have oh : S.getD k [] = Z:=by rw [<- HS.out,<- hZ,<- hQ];simp [hk2]
    have hQl : Q.length <= 8:=JF;obtain ⟨n,hn⟩ : ∃ n,Q.length = n:=⟨_,rfl⟩;rw [hn] at hQl sV;have fN:=ah hat;have Xx:=ah JG;have HZ:=ah hZ;have rQ:=ah oh;have Zd:=ah sV;have Hn:=ah hn;have aQ:=ah pb;have dt:=ah pv;clear hat JG hZ oh sV hn pb pv hQ hab JF;have gV:=aQ.out.size;go_upto_if 22 with fail
    go_cut [9] (fun s9 wx=>s9 = .slice aq n cq /\ wx = wr);case first=>
     rcases Zd.out with ⟨rfl,rfl,rfl,rfl⟩ | ⟨h1,rfl,rfl,rfl⟩
     . obtain rfl:=(NJ.out k hlt).2 rfl;go_wp2_with fail;go_meet;exact ⟨rfl,rfl⟩
     . have h3 : ¬ (k : Int) = at9:=fun h=>h1 ((NJ.out k hlt).1 h);have h2 : ((k : Int) == at9) = false:=by simpa using h3
       go_wp2_with fail;go_meet;exact ⟨rfl,rfl⟩
    case rest=>
     obtain ⟨rfl,rfl⟩:=hcut;clear kG hc1;go_wp2_with fail;go_loopw [10,26] (fun BR x wr=>∃ (j : Nat) (v2 : Value),j <= n /\ x = .int .i64 (j : Int) /\ v2 = BR /\ wr.ownsRow wc.heap.size 30 3 v2 j (dC (Z.take j)) /\ Bw wc wr) (fun _ x _=>n - (intOf x).toNat);case atStart=>exact ⟨0,_,Nat.zero_le _,rfl,rfl,World.ownsRow_nil _ _ _ _,Below.refl _ _⟩
     case round=>
      obtain ⟨j,v2,hj,rfl,rfl,ho,hb2⟩:=hrel;by_cases bi : j < n
      . have h1 : j < Q.length:=by rw [Hn.out];exact bi
        obtain ⟨s,m,e,hx⟩ : ∃ s m e,Q[j] = (s,m,e):=⟨_,_,_,rfl⟩;have hok:=Xx.out _ (List.getElem_mem h1);rw [hx] at hok;obtain ⟨X,hX⟩ : ∃ X,aB (s,m,e) = X:=⟨_,rfl⟩;have cd : Hid (dC (Z.take (j + 1)) = dC (Z.take j) ++ [.bool (ar (dN X)),.string (bs (nt (dN X).natAbs)),.int .i64 (dE X)]):=by
         show _ = _
         rw [<- HZ.out,List.take_succ_eq_append_getElem (by simpa using h1),xb];congr 1;simp only [List.getElem_map,hx,hX];rfl
        obtain ⟨b2,o2,gz,p0,p1,p2⟩:=(fN.out.below hb2).num j h1 hx;have oC:=mV n cq j (j : Int) gz bi rfl;have HX:=ah hX;have FR:=ah hok;have Ho:=ah ho;have bV:=ah hb2;have cE:=ah ((HT.out.below aQ.out).below hb2);have BV:=hb2.size;have Hp : Hid (bo wr b2 (o2 + j * 3) [.bool s,.string (bs m),.int .i64 e]):=iK p0 p1 p2;clear hX hok ho hb2 hx gz p0 p1 p2;have Hb : Hid (Bw wr wr):=Below.refl _ _;obtain ⟨p0,p1,p2⟩:=Hp.out.w3;have P0:=p0;have P1:=p1;have P2:=p2;obtain ⟨W4,eO⟩ : ∃ W4,(wr.alloc (.cells #[.bool s,.string (bs m),.int .i64 e] 30)) = W4:=⟨_,rfl⟩;have ae : Bw wr W4:=by rw [<- eO];exact zl
        clear p0 p1 p2;replace Hp:=kW Hp ae;have Hc : Hid (ai W4 (wr.heap.size) 30 [.bool s,.string (bs m),.int .i64 e]):=by rw [<- eO];exact ai.newAt _ _ _ zm
        obtain ⟨p0,p1,p2⟩:=Hp.out.w3;obtain ⟨c0,c1,c2⟩:=Hc.out.c3;replace Hb:=au Hb ae;clear ae;have HT : Hid (az W4):=cE.out.below Hb.out;go_wp2_with fail;refine (nV s m e X HX.out _ FR.out HT.out).mono ?_;rintro e w5 ⟨rfl,ae⟩;clear p0 p1 p2 c0 c1 c2;replace Hp:=kW Hp ae;replace Hc:=kB Hc ae;replace HT:=kT HT ae;obtain ⟨p0,p1,p2⟩:=Hp.out.w3;obtain ⟨c0,c1,c2⟩:=Hc.out.c3;replace Hb:=au Hb ae;clear ae;have agq:=Hc.out.lt;obtain ⟨W6,fp⟩ : ∃ W6,(w5.alloc (.cells #[.bool (ar (dN X)),.string (bs (nt (dN X).natAbs)),.int .i64 (dE X)] 30)) = W6:=⟨_,rfl⟩;have ae : Bw w5 W6:=by rw [<- fp];exact zl
        clear p0 p1 p2;replace Hp:=kW Hp ae;clear c0 c1 c2;replace Hc:=kB Hc ae;replace HT:=kT HT ae;have Hd : Hid (ai W6 (w5.heap.size) 30 [.bool (ar (dN X)),.string (bs (nt (dN X).natAbs)),.int .i64 (dE X)]):=by rw [<- fp];exact ai.newAt _ _ _ zm
        obtain ⟨p0,p1,p2⟩:=Hp.out.w3;obtain ⟨c0,c1,c2⟩:=Hc.out.c3;obtain ⟨d0,d1,d2⟩:=Hd.out.c3;replace Hb:=au Hb ae;clear ae;have dh:=ownsRow_below Ho.out Hb.out;have jv:=Hb.out.size;have hnews:=gv Hd.out;clear d0 d1 d2;go_wp2_with (at_builtin;refine wpList_append_own_at _ rfl _ _ 46 rfl wc.heap.size 30 i0 _ 3 32 Tryz.underlying46 Hi.out cM.out cN.out cH.out rfl zd v2 j (dC (Z.take j)) rfl dh ⟨w5.heap.size,0,none⟩ 1 1 [.bool (ar (dN X)),.string (bs (nt (dN X).natAbs)),.int .i64 (dE X)] rfl rfl hnews zy zx zo zo ?_;intro v' w7 dX fq _ _;obtain ⟨g',mK,rfl⟩:=ownsRow_succ dX);go_roundw;case rel=>
         refine ⟨j + 1,_,by omega,by go_num,rfl,?_,?_⟩
         . rw [cd.out];exact dX
         . exact (aI bV.out Hb.out).grown fq zo (fun j e=>cP dh j e)
        case measure=>simp [intOf];omega
      . obtain rfl : j = n:=by omega
        have lv : Z.take j = Z:=List.take_of_length_le (by rw [<- HZ.out];simp [Hn.out]);rw [lv] at ho;obtain ⟨a2,cap2,rfl,ou,gz⟩:=dG ho;have fX:=ho.lt;obtain ⟨vals,hvl,hov,iV⟩:=dt.out.below hb2;have Hb : Hid (Bw wr wr):=Below.refl _ _;obtain ⟨_,_,oG,_⟩:=dt.out;have hvs:=oG.lt;have hin : ∀ b o,a2 = some ⟨b,o,none⟩ -> some b ≠ v.ownBlock /\ b < wr.heap.size:=by intro b o e;subst e;have h1:=fX b rfl;refine ⟨fun h2=>?_,h1.2⟩;have h3:=hvs b h2.symm;omega
        have nE:=ah hin;have yF:=ah ou;have lM:=ah hvl;have qO:=ah iV;have cB:=ah hov;have bV:=ah hb2;have BV:=hb2.size;clear hin ou hvl iV hov oG hvs hb2 gz fX lv ho bi hj;obtain ⟨W6,fp⟩ : ∃ W6,(wr.alloc (.cells #[.slice a2 j cap2] 46)) = W6:=⟨_,rfl⟩;have ae : Bw wr W6:=by rw [<- fp];exact zl
        have Hd : Hid (ai W6 (wr.heap.size) 46 [.slice a2 j cap2]):=by rw [<- fp];exact ai.newAt _ _ _ zm
        have d0:=Hd.out.c1;replace Hb:=au Hb ae;clear ae;have dh:=ownsRow_below cB.out Hb.out;have jv:=Hb.out.size;have hnews : ∀ i u,([.slice a2 j cap2] : List Value)[i]? = some u -> W6.cell? ((⟨wr.heap.size,0,none⟩ : Addr).add i) = some u:=gv Hd.out;clear d0;go_wp2_with (at_builtin;refine wpList_append_own_at _ rfl _ _ 23 rfl w.heap.size 46 j0 _ 1 24 Tryz.underlying23 Hj.out jL.out lN.out lO.out rfl zd v k vals rfl dh ⟨wr.heap.size,0,none⟩ 1 1 [.slice a2 j cap2] rfl rfl hnews zy zx zo zo ?_;intro v' w7 dX fq _ fR;obtain ⟨g',mK,rfl⟩:=ownsRow_succ dX);go_roundw;case rel=>
         refine ⟨k + 1,_,by omega,by go_num,rfl,?_,?_⟩
         . refine Own2.push (a:=a2) (c:=cap2) lM.out (w:=W6) ?_ ?_ ?_ ?_ fq fR
           . intro i h;obtain ⟨a,c,h1,h2,h3⟩:=qO.out i h;exact ⟨a,c,h1,h2.below Hb.out,fun b o e=>⟨(h3 b o e).1,Nat.lt_of_lt_of_le (h3 b o e).2 jv⟩⟩
           . rw [rQ.out];exact yF.out.below Hb.out
           . exact fun b o e=>⟨(nE.out b o e).1,Nat.lt_of_lt_of_le (nE.out b o e).2 jv⟩
           . rw [rQ.out,<- HZ.out,List.length_map,Hn.out];exact dX
         . exact (aI (aI aQ.out bV.out) Hb.out).grown fq zo (fun j e=>cP dh j e)
        case measure=>simp [intOf];omega
  . obtain rfl : k = L:=by omega
    have hlen : R.length = k:=Xz.out;rw [<- HS.out] at pv;obtain ⟨a2,c2,rfl,hcl,jw⟩:=Own2.tbl pv hlen;have oV:=ah jw;have aQ:=ah pb;clear pv pb jw hlen;go_wp2;refine bodyPost_ret (results_tmp rfl _ _ _) rfl ⟨a2,c2,rfl,hcl,oV.out,aQ.out⟩
theorem aj9 (a : Option Addr) (L cap : Nat) (rows : List (List Raw)) (k0 : Nat) (pa : Option Addr) (pn pS : Nat) (Pp : List Raw) (w : World) (hL : rows.length = L) (Jz : L <= 9) (hP : Pp.length = pn) (Rc : pn <= 8) (hrow : ∀ r ∈ rows,r.length <= 8) (ha : aW w a rows) (hp : At w pa (Pp.flatMap bF))
 (hok : ∀ r ∈ rows,∀ x ∈ r,Ok x) (EE : ∀ x ∈ Pp,Ok x) (hT : az w) :
 Calls Tryz.prog 48 #[.slice a L cap,.int .i64 (k0 : Int),.slice pa pn pS] w fun e w'=>∃ a' cap',e = .returned (.slice a' L cap') /\ L <= cap' /\ aW w' a' ((rows.set k0 Pp).map iR) /\ Bw w w':=
 aj8 a L cap rows k0 pa pn pS Pp w hL Jz hP Rc hrow ha hp hok EE hT _ (fun k _=>by omega)
theorem UG (a : Option Addr) (L cap n : Nat) (rows : List (List Raw)) (B : Nat) (w : World) (hL : rows.length = L) (hv : eV rows = n) (hn : 1 <= n) (ha : aW w a rows)
 (hfit : ∀ r ∈ rows,∀ c ∈ r,Fit B c) (hB : B <= 10000000) (hT : az w) :
 Calls Tryz.prog 13 #[.slice a L cap] w fun e w'=>e = .returned (.tuple #[.int .i64 ((fI (eY rows n) L).1 : Int),.int .i64 ((fI (eY rows n) L).2.1 : Int),bM (fI (eY rows n) L).2.2,.int .i64 0]) /\ Bw w w':=by
 obtain ⟨c1,c2,c3,c4⟩:=wm hv zo;have hvars:=fun W=>fun (h : aW W a rows)=>yq a L cap rows W hL zo h;have uY:=fun W=>fun (h : aW W a rows) (hT : az W)=>agi a L cap n rows B W hL zo zo zo (fun r hr=>by have:=c4 r hr;omega) h hfit hB hT;rw [hv] at hvars;obtain ⟨⟨i,j,X⟩,hF⟩ : ∃ F,fI (eY rows n) L = F:=⟨_,rfl⟩;simp only [hF] at uY;rw [hF];have ZP:=ah hvars;have GF:=ah uY;have Ha:=ah ha;have HT:=ah hT;have h0 : ((n : Int) == 0) = false:=by simp;omega
 have h0' : ¬ (n : Int) = 0:=by omega
 clear hvars uY ha hT hF hfit hv c1 c2 c3 c4 hL;obtain ⟨W,aK⟩ : ∃ W,(w.alloc (.cells #[.bool false,.string ⟨#[]⟩,.int .i64 0] 30)) = W:=⟨_,rfl⟩;have Hb : Hid (Bw w W):=by rw [<- aK];exact zl
 have Hr : Hid (ai W (w.heap.size) 30 [.bool false,.string ⟨#[]⟩,.int .i64 0]):=by rw [<- aK];exact ai.newAt _ _ _ zm
 obtain ⟨r0,aj,r1,ak,r2,aC⟩:=Hr.out.g3;go_enter Tryz.func13,Tryz.ntmps13;go_wp2_with fail;refine (ZP.out _ (Ha.out.below Hb.out)).mono ?_;rintro e w1 ⟨rfl,ae⟩;clear r0 aj r1 ak r2 aC;replace Hr:=kB Hr ae;obtain ⟨r0,aj,r1,ak,r2,aC⟩:=Hr.out.g3;replace Hb:=au Hb ae;clear ae;go_wp2_with fail;refine (GF.out _ (Ha.out.below Hb.out) (HT.out.below Hb.out)).mono ?_;rintro e w2 ⟨rfl,ae⟩;clear r0 aj r1 ak r2 aC;replace Hr:=kB Hr ae;obtain ⟨r0,aj,r1,ak,r2,aC⟩:=Hr.out.g3;replace Hb:=au Hb ae;clear ae;have amH:=Hr.out.lt;obtain ⟨w3,Ry⟩ : ∃ w3,(w2.alloc (.cells #[.int .i64 (i : Int),.int .i64 (j : Int),.bool (ar (dN X)),.string (bs (nt (dN X).natAbs)),.int .i64 (dE X)] 83)) = w3:=⟨_,rfl⟩;have ae : Bw w2 w3:=by rw [<- Ry];exact zl
 clear r0 aj r1 ak r2 aC;replace Hr:=kB Hr ae;have Hx : Hid (ai w3 (w2.heap.size) 83 [.int .i64 (i : Int),.int .i64 (j : Int),.bool (ar (dN X)),.string (bs (nt (dN X).natAbs)),.int .i64 (dE X)]):=by rw [<- Ry];exact ai.newAt _ _ _ zm
 obtain ⟨r0,aj,r1,ak,r2,aC⟩:=Hr.out.g3;obtain ⟨x0,x1,x2,x3,x4⟩:=Hx.out.c5;replace Hb:=au Hb ae;clear ae;go_wp2_with fail;refine bG (fun w'=>w'.cell? ⟨w2.heap.size,0,none⟩ = some (.int .i64 (i : Int)) /\ w'.cell? ⟨w2.heap.size,1,none⟩ = some (.int .i64 (j : Int)) /\ w'.cell? ⟨w2.heap.size,2,none⟩ = some (.bool (ar (dN X))) /\ w'.cell? ⟨w2.heap.size,3,none⟩ = some (.string (bs (nt (dN X).natAbs))) /\ w'.cell? ⟨w2.heap.size,4,none⟩ = some (.int .i64 (dE X))) (fun i=>Nat.blt i 10) [(0,true),(1,true),(2,true),(3,true),(4,true),(5,true),(6,true),(7,true),(8,true),(9,true),(10,false),(11,false)] zk zk rfl zk zc ⟨x0,x1,x2,x3,x4⟩ ?_;iterate 10 (refine pT rfl rfl ?_ (by intro w' ⟨q0,q1,q2,q3,q4⟩;go_simp;try with_reducible rfl);try simp only [UU])
 refine aH rfl rfl (fun K hK=>?_);go_simp;refine hK _ _ (fun h=>absurd h zd) ?_;clear hK K;try simp only [UU]
 clear r0 aj r1 ak r2 aC x0 x1 x2 x3 x4;refine bJ (fun w4=>ai w4 (w.heap.size) 30 [.bool (ar (dN X)),.string (bs (nt (dN X).natAbs)),.int .i64 (dE X)] /\ ai w4 (w2.heap.size) 83 [.int .i64 (i : Int),.int .i64 (j : Int),.bool (ar (dN X)),.string (bs (nt (dN X).natAbs)),.int .i64 (dE X)] /\ Bw w w4) ⟨(((Hr.out.set 0 _).set 1 _).set 2 _),(((Hx.out.so (w.heap.size) 0 zo _).so (w.heap.size) 1 zo _).so (w.heap.size) 2 zo _),by first | exact (((Hb.out.sc (w.heap.size) 0 ZS _).sc (w.heap.size) 1 ZS _).sc (w.heap.size) 2 ZS _) | exact Below.drew (((Hb.out.sc (w.heap.size) 0 ZS _).sc (w.heap.size) 1 ZS _).sc (w.heap.size) 2 ZS _)⟩ ?_;rintro w4 ⟨qr,qx,ae⟩;replace Hr:=ah qr;clear qr;replace Hx:=ah qx;clear qx;obtain ⟨r0,aj,r1,ak,r2,aC⟩:=Hr.out.g3;obtain ⟨x0,x1,x2,x3,x4⟩:=Hx.out.c5;replace Hb:=ah ae;clear ae;refine aH rfl rfl (fun K hK=>?_);go_simp;refine hK _ _ (fun h=>absurd h zd) ?_;clear hK K;try simp only [UU]
 simp only [aU];go_wp2;refine bodyPost_ret (v:=.tuple #[.int .i64 (i : Int),.int .i64 (j : Int),bM X,.int .i64 0]) (by simp [results,Tryz.results13,go_sem,r0,r1,r2]) rfl ⟨rfl,?_⟩;(repeat first | exact Hb.out | (refine Below.setCell ?_ (by have:=Hb.out.size;first | (dsimp only;omega) | (show _ <= _;omega) | (simp<;>omega)) _) | (refine Below.alloc ?_ zt _) | refine Below.drew ?_)
def midD (p q : List Raw) : List Dyadic:=List.zipWith (fun x y=>(aB x + aB y) * hp 1) p q
def jX (p q : List Raw) : List Raw:=(midD p q).map canon
theorem UY {p q : List Raw} (h : p.length = q.length) : (midD p q).length = p.length:=by simp [midD,h]
theorem Va {p q : List Raw} (h : p.length = q.length) : (jX p q).length = p.length:=by simp [jX,UY h]
theorem agI (p q : List Raw) (k : Nat) (h : k < p.length) (h' : k < q.length) : (midD p q).take (k + 1) = (midD p q).take k ++ [(aB p[k] + aB q[k]) * hp 1]:=by unfold midD;rw [List.take_succ_eq_append_getElem zi];simp
theorem UZ {B : Nat} {p q : List Raw} (hp' : ∀ x ∈ p,Fit B x) (hq : ∀ x ∈ q,Fit B x) (hB : B <= 10000000) : ∀ x ∈ jX p q,Fit (B + 3) x:=by
 intro x hx;unfold jX midD at hx;obtain ⟨d,hd,rfl⟩:=List.mem_map.1 hx;obtain ⟨i,hi,rfl⟩:=List.mem_iff_getElem.1 hd;have hi1 : i < p.length /\ i < q.length:=by simp at hi;omega
 rw [List.getElem_zipWith];have h1:=Sm.mul (Sm.add (hp' _ (List.getElem_mem hi1.1)).2 (hq _ (List.getElem_mem hi1.2)).2) (ae1 1);exact (h1.mono (show B + 1 + (1 + 1) <= B + 3 by omega)).fit zo
theorem RI (a : Option Addr) (L cap n : Nat) (rows : List (List Raw)) (B : Nat) (i j : Nat) (Y : Dyadic) (w : World) (hL : rows.length = L) (hv : eV rows = n) (hn : 1 <= n) (ha : aW w a rows)
 (hfit : ∀ r ∈ rows,∀ c ∈ r,Fit B c) (hB : B <= 10000000) (hT : az w) (hF : fI (eY rows n) L = (i,j,Y)) :
 Calls Tryz.prog 14 #[.slice a L cap] w fun e w'=>∃ a1 c1 a2 c2,e = .returned (.tuple #[.slice a1 L c1,.slice a2 L c2,.int .i64 0]) /\ L <= c1 /\ L <= c2 /\
  aW w' a1 ((rows.set j (jX (rows.getD i []) (rows.getD j []))).map iR) /\ aW w' a2 ((rows.set i (jX (rows.getD i []) (rows.getD j []))).map iR) /\ Bw w w':=by
 obtain ⟨i0,hi,hz0,hz1,hz2⟩:=info_parts Tryz.anG;obtain ⟨c1,c2,c3,c4⟩:=wm hv zo;have uY:=fun W=>fun (h : aW W a rows) (hT : az W)=>UG a L cap n rows B W hL hv hn h hfit hB hT;have hinv:=Bi (eY rows n) L zo;rw [hF] at hinv;simp only [hF] at uY;obtain ⟨hij,Kn,hY⟩:=hinv;dsimp only at hij Kn hY;have SG : i < L:=by omega
 obtain ⟨p,hp'⟩ : ∃ p,rows.getD i [] = p:=⟨_,rfl⟩;obtain ⟨q,hq'⟩ : ∃ q,rows.getD j [] = q:=⟨_,rfl⟩;have ep : rows[i]'zo = p:=by rw [<- hp'];simp [hL,SG]
 have eq : rows[j]'zo = q:=by rw [<- hq'];simp [hL,Kn]
 have hpl : p.length = n:=by have:=c4 p (by rw [<- ep];exact List.getElem_mem _);omega
 have KQ : q.length = n:=by have:=c4 q (by rw [<- eq];exact List.getElem_mem _);omega
 have iu : ∀ x ∈ p,Fit B x:=by rw [<- ep];exact hfit _ (List.getElem_mem _)
 have KP : ∀ x ∈ q,Fit B x:=by rw [<- eq];exact hfit _ (List.getElem_mem _)
 rw [hp',hq'];have KY:=fun (k : Nat) (pa : Option Addr) (pc : Nat) (W : World) (h1 : aW W a rows) (h2 : At W pa (dC (midD p q))) (h3 : az W)=>aj9 a L cap rows k pa n pc (jX p q) W hL zo (by rw [Va zo];exact hpl) zo (fun r hr=>by have:=c4 r hr;omega) h1 (by unfold jX;rw [<- sB];exact h2) (fun r hr x hx=>(hfit r hr x hx).1) (fun x hx=>(UZ iu KP hB x hx).1) h3;obtain ⟨A1,Jm⟩ : ∃ A1,(rows.set j (jX p q)).map iR = A1:=⟨_,rfl⟩;obtain ⟨A2,QC⟩ : ∃ A2,(rows.set i (jX p q)).map iR = A2:=⟨_,rfl⟩;have tu:=KY j;have pH:=KY i;rw [Jm] at tu ⊢;rw [QC] at pH ⊢;have hrow:=fun (W : World) (h : aW W a rows)=>h.row i zo;have hrow2:=fun (W : World) (h : aW W a rows)=>h.row j zo;simp only [ep,hpl] at hrow;simp only [eq,KQ] at hrow2;obtain ⟨Z,hZ⟩ : ∃ Z,midD p q = Z:=⟨_,rfl⟩;have hst : ∀ k (h : k < p.length) (h' : k < q.length),Z.take (k + 1) = Z.take k ++ [(aB p[k] + aB q[k]) * hp 1]:=by rw [<- hZ];exact agI p q
 have Aq : Z.length = n:=by rw [<- hZ,UY zo,hpl]
 rw [hZ] at pH tu;have Hi:=ah hi;have cM:=ah hz0;have cN:=ah hz1;have cH:=ah hz2;have GF:=ah uY;have Ha:=ah ha;have HT:=ah hT;have ZV:=ah pH;have ZW:=ah tu;have uz:=ah hrow;have ZA:=ah hrow2;have cd:=ah hst;have rS:=ah Aq;have qK:=ah hpl;have Zy:=ah KQ;have oU:=ah iu;have Zx:=ah KP;have xE : n <= 8:=by omega
 clear hi hz0 hz1 hz2 uY ha hT pH tu KY hrow hrow2 hst Aq hpl KQ iu KP ep eq hp' hq' hY hF hfit hv c1 c2 c3 c4 hL hZ Jm QC;have Hb : Hid (Bw w w):=Below.refl _ _;go_enter Tryz.func14,Tryz.ntmps14;go_wp2_with fail;refine (GF.out _ (Ha.out.below Hb.out) (HT.out.below Hb.out)).mono ?_;rintro e w1 ⟨rfl,ae⟩;replace Hb:=au Hb ae;clear ae;obtain ⟨w2,Rx⟩ : ∃ w2,(w1.alloc (.cells #[.bool (ar (dN Y)),.string (bs (nt (dN Y).natAbs)),.int .i64 (dE Y)] 30)) = w2:=⟨_,rfl⟩;have ae : Bw w1 w2:=by rw [<- Rx];exact zl
 have Hx : Hid (ai w2 (w1.heap.size) 30 [.bool (ar (dN Y)),.string (bs (nt (dN Y).natAbs)),.int .i64 (dE Y)]):=by rw [<- Rx];exact ai.newAt _ _ _ zm
 obtain ⟨x0,x1,x2⟩:=Hx.out.c3;replace Hb:=au Hb ae;clear ae;obtain ⟨b0,o0,a1,c1,gy,hc0,iq⟩:=uz.out w2 (Ha.out.below Hb.out);obtain ⟨iz,jB,a2,c2,dM,hc1,jP⟩:=ZA.out w2 (Ha.out.below Hb.out);obtain ⟨rfl,rfl⟩ : iz = b0 /\ jB = o0:=by rw [gy] at dM;simp at dM;exact ⟨dM.1.symm,dM.2.symm⟩
 clear dM;have xJ:=kI L cap i (i : Int) gy SG rfl;have vF:=kI L cap j (j : Int) gy Kn rfl;rw [Nat.mul_one] at xJ vF;have rV:=ah hc0;have Gi:=ah hc1;have iw:=ah iq;have kQ:=ah jP;have jG:=ah gy;clear hc1 iq jP gy;have BV:=Hb.out.size;go_wp2_with fail;go_loopw [8,25] (fun s8 x wr=>∃ (k : Nat) (v : Value),k <= n /\ x = .int .i64 (k : Int) /\ v = s8 /\ wr.ownsRow w2.heap.size 30 3 v k (dC (Z.take k)) /\ Bw w2 wr) (fun _ x _=>n - (intOf x).toNat);case atStart=>exact ⟨0,_,Nat.zero_le _,rfl,rfl,World.ownsRow_nil _ _ _ _,Below.refl _ _⟩
 case round=>
  clear hc0 x0 x1 x2;obtain ⟨k,v,hk,rfl,rfl,pv,pb⟩:=hrel;by_cases hlt : k < n
  . have k1 : k < p.length:=by rw [qK.out];exact hlt
    have k2 : k < q.length:=by rw [Zy.out];exact hlt
    obtain ⟨sp,mp,ep,gF⟩ : ∃ s m e,p[k] = (s,m,e):=⟨_,_,_,rfl⟩;obtain ⟨sq,mq,eq,mU⟩ : ∃ s m e,q[k] = (s,m,e):=⟨_,_,_,rfl⟩;have eH:=oU.out _ (List.getElem_mem k1);have ma:=Zx.out _ (List.getElem_mem k2);have hst:=cd.out k k1 k2;rw [gF] at eH hst;rw [mU] at ma hst;obtain ⟨D,hD⟩ : ∃ D,aB (sp,mp,ep) + aB (sq,mq,eq) = D:=⟨_,rfl⟩;obtain ⟨X,hX⟩ : ∃ X,D * hp 1 = X:=⟨_,rfl⟩;rw [hD,hX] at hst;have kC : Sm (B + 1) D:=by rw [<- hD];exact Sm.add eH.2 ma.2
    have Xf : Hid (Ok (ar (dN D),nt (dN D).natAbs,dE D)):=(kC.fit zo).1;have HX : Hid (aB (ar (dN D),nt (dN D).natAbs,dE D + -1) = X):=by show _ = _;rw [<- hX];exact Wh D 1
    have nK : Hid (dC (Z.take (k + 1)) = dC (Z.take k) ++ [.bool (ar (dN X)),.string (bs (nt (dN X).natAbs)),.int .i64 (dE X)]):=by
     show _ = _
     rw [hst,xb];rfl
    obtain ⟨b1,o1,dM,p0,p1,p2⟩:=(iw.out.below pb).num k k1 gF;obtain ⟨b2,o2,gz,q0,q1,q2⟩:=(kQ.out.below pb).num k k2 mU;have kG:=mV n c1 k (k : Int) dM hlt rfl;have oC:=mV n c2 k (k : Int) gz hlt rfl;have jV : b1 < w2.heap.size:=(by subst dM;exact iw.out.lt (by intro h0;have:=congrArg List.length h0;rw [jq bF 3 (fun _=>rfl)] at this;simp at this;omega));have iH : b2 < w2.heap.size:=(by subst gz;exact kQ.out.lt (by intro h0;have:=congrArg List.length h0;rw [jq bF 3 (fun _=>rfl)] at this;simp at this;omega));have vH : iz < w2.heap.size:=World.block_lt_of_cell? w2 _ rV.out;have Hu : Hid (bo wr iz (jB + i) [.slice a1 n c1]):=fun j hj=>by
     obtain rfl : j = 0:=by simp at hj;omega
     exact cell_later pb rV.out
    have Hv : Hid (bo wr iz (jB + j) [.slice a2 n c2]):=fun j hj=>by
     obtain rfl : j = 0:=by simp at hj;omega
     exact cell_later pb Gi.out
    have Hp : Hid (bo wr b1 (o1 + k * 3) [.bool sp,.string (bs mp),.int .i64 ep]):=iK p0 p1 p2;have Hq : Hid (bo wr b2 (o2 + k * 3) [.bool sq,.string (bs mq),.int .i64 eq]):=iK q0 q1 q2;have kU:=ah eH;have wI:=ah ma;have HD:=ah hD;have dt:=ah pv;have uo:=ah pb;have aY:=ah ((HT.out.below Hb.out).below pb);have kR:=Hb;have ym:=pb.size;clear Hb pv pb eH ma hD hX hst kC gF mU dM gz p0 p1 p2 q0 q1 q2;have Hb : Hid (Bw wr wr):=Below.refl _ _;go_wp2_with fail;have u0:=Hu.out.w1;have v0:=Hv.out.w1;obtain ⟨p0,p1,p2⟩:=Hp.out.w3;obtain ⟨q0,q1,q2⟩:=Hq.out.w3;refine bG (fun w'=>w'.cell? ⟨iz,jB + i,none⟩ = some (.slice a1 n c1) /\ w'.cell? ⟨iz,jB + j,none⟩ = some (.slice a2 n c2) /\ w'.cell? ⟨b1,o1 + k * 3,none⟩ = some (.bool sp) /\ w'.cell? ⟨b1,o1 + k * 3 + 1,none⟩ = some (.string (bs mp)) /\ w'.cell? ⟨b1,o1 + k * 3 + 2,none⟩ = some (.int .i64 ep) /\ w'.cell? ⟨b2,o2 + k * 3,none⟩ = some (.bool sq) /\ w'.cell? ⟨b2,o2 + k * 3 + 1,none⟩ = some (.string (bs mq)) /\ w'.cell? ⟨b2,o2 + k * 3 + 2,none⟩ = some (.int .i64 eq)) (fun i=>Nat.blt i 100000) [(0,true),(1,true),(2,true),(3,true),(4,true),(5,true),(6,true),(7,true),(8,true),(9,true),(10,true),(11,true),(12,true),(13,true),(14,true),(15,false),(16,false),(17,false),(18,false),(19,false),(20,true)] zk zk rfl zk zc ⟨u0,v0,p0,p1,p2,q0,q1,q2⟩ ?_;iterate 15 (refine pT rfl rfl ?_ (by intro w' ⟨q0,q1,q2,q3,q4,q5,q6,q7⟩;go_simp;try with_reducible rfl);try simp only [UU])
    refine aH rfl rfl (fun K hK=>?_);go_simp;refine hK _ _ (fun _=>⟨aG u0,aG v0,aG p0,aG p1,aG p2,aG q0,aG q1,aG q2⟩) ?_;clear hK K;try simp only [UU]
    refine bJ (fun w4=>ai w4 (wr.heap.size) 30 [.bool sp,.string (bs mp),.int .i64 ep,.bool sq,.string (bs mq),.int .i64 eq] /\ Bw wr w4) (by first | exact dQ | exact dR) ?_;rintro w4 ⟨qe,ae⟩;clear u0 v0 p0 p1 p2 q0 q1 q2;replace Hu:=kW Hu ae;replace Hv:=kW Hv ae;replace Hp:=kW Hp ae;replace Hq:=kW Hq ae;have He:=ah qe;clear qe;have u0:=Hu.out.w1;have v0:=Hv.out.w1;obtain ⟨p0,p1,p2⟩:=Hp.out.w3;obtain ⟨q0,q1,q2⟩:=Hq.out.w3;obtain ⟨e0,e1,e2,e3,e4,e5⟩:=He.out.c6;replace Hb:=au Hb ae;clear ae;refine aH rfl rfl (fun K hK=>?_);go_simp;with_reducible refine (zS sp mp ep sq mq eq D B HD.out wr.heap.size 2 30 _ kU.out wI.out zo He.out (by first | exact (aY.out.below Hb.out) | exact az.drew (aY.out.below Hb.out) | exact az.alloc (aY.out.below Hb.out) _ | exact az.drew (az.alloc (aY.out.below Hb.out) _) | exact az.alloc (az.drew (aY.out.below Hb.out)) _)).mono ?_
    rintro e w5 ⟨rfl,hq⟩;have ae : Bw w4 w5:=by first | exact hq | exact aM hq
    clear u0 v0 p0 p1 p2 q0 q1 q2 e0 e1 e2 e3 e4 e5;replace Hu:=kW Hu ae;replace Hv:=kW Hv ae;replace Hp:=kW Hp ae;replace Hq:=kW Hq ae;replace He:=kB He ae;have u0:=Hu.out.w1;have v0:=Hv.out.w1;obtain ⟨p0,p1,p2⟩:=Hp.out.w3;obtain ⟨q0,q1,q2⟩:=Hq.out.w3;obtain ⟨e0,e1,e2,e3,e4,e5⟩:=He.out.c6;replace Hb:=au Hb ae;clear ae;refine hK _ _ (fun _=>⟨u0,v0,p0,p1,p2,q0,q1,q2⟩) ?_;clear hK K;try simp only [UU]
    refine aH rfl rfl (fun K hK=>?_);go_simp;with_reducible refine (We (ar (dN D)) (nt (dN D).natAbs) (dE D) (-1) X HX.out _ Xf.out zd (by first | exact (aY.out.below Hb.out) | exact az.drew (aY.out.below Hb.out) | exact az.alloc (aY.out.below Hb.out) _ | exact az.drew (az.alloc (aY.out.below Hb.out) _) | exact az.alloc (az.drew (aY.out.below Hb.out)) _)).mono ?_
    rintro e w6 ⟨rfl,hq⟩;have ae : Bw w5 w6:=by first | exact hq | exact aM hq
    clear u0 v0 p0 p1 p2 q0 q1 q2 e0 e1 e2 e3 e4 e5;replace Hu:=kW Hu ae;replace Hv:=kW Hv ae;replace Hp:=kW Hp ae;replace Hq:=kW Hq ae;replace He:=kB He ae;have u0:=Hu.out.w1;have v0:=Hv.out.w1;obtain ⟨p0,p1,p2⟩:=Hp.out.w3;obtain ⟨q0,q1,q2⟩:=Hq.out.w3;obtain ⟨e0,e1,e2,e3,e4,e5⟩:=He.out.c6;replace Hb:=au Hb ae;clear ae;refine hK _ _ (fun _=>⟨u0,v0,p0,p1,p2,q0,q1,q2⟩) ?_;clear hK K;try simp only [UU]
    refine aH rfl rfl (fun K hK=>?_);go_simp;refine hK _ _ (fun _=>⟨aG u0,aG v0,aG p0,aG p1,aG p2,aG q0,aG q1,aG q2⟩) ?_;clear hK K;try simp only [UU]
    refine bJ (fun w7=>ai w7 (w6.heap.size) 30 [.bool (ar (dN X)),.string (bs (nt (dN X).natAbs)),.int .i64 (dE X)] /\ Bw w6 w7) (by first | exact dQ | exact dR) ?_;rintro w7 ⟨qc,ae⟩;clear u0 v0 p0 p1 p2 q0 q1 q2 e0 e1 e2 e3 e4 e5;have amh:=He.out.lt;replace Hu:=kW Hu ae;replace Hv:=kW Hv ae;replace Hp:=kW Hp ae;replace Hq:=kW Hq ae;replace He:=kB He ae;have Hc:=ah qc;clear qc;have u0:=Hu.out.w1;have v0:=Hv.out.w1;obtain ⟨p0,p1,p2⟩:=Hp.out.w3;obtain ⟨q0,q1,q2⟩:=Hq.out.w3;obtain ⟨e0,e1,e2,e3,e4,e5⟩:=He.out.c6;obtain ⟨c0,c1,c2⟩:=Hc.out.c3;replace Hb:=au Hb ae;clear ae;refine aH rfl rfl (fun K hK=>?_);have dh:=ownsRow_below dt.out Hb.out;have jv:=Hb.out.size;refine wp_append_own _ _ _ 46 rfl w2.heap.size 30 i0 _ 3 32 Tryz.underlying46 Hi.out cM.out cN.out cH.out rfl zd v k (dC (Z.take k)) rfl dh ⟨w6.heap.size,0,none⟩ 1 1 [.bool (ar (dN X)),.string (bs (nt (dN X).natAbs)),.int .i64 (dE X)] rfl rfl (gv Hc.out) zy zx zo zo ?_;intro v' w8 dD aZ _;obtain ⟨g',cq,rfl⟩:=ownsRow_succ dD;have nb : ∀ b,b < w2.heap.size -> some b ≠ v.ownBlock:=fun b hb e=>by have:=cP dh b e.symm;omega
    refine hK _ _ (fun _=>⟨bT aZ u0 (nb _ vH),bT aZ v0 (nb _ vH),bT aZ p0 (nb _ jV),bT aZ p1 (nb _ jV),bT aZ p2 (nb _ jV),bT aZ q0 (nb _ iH),bT aZ q1 (nb _ iH),bT aZ q2 (nb _ iH)⟩) ?_;clear hK K;try simp only [UU]
    refine pT rfl rfl ?_;try simp only [UU]
    simp only [aU];clear u0 v0 p0 p1 p2 q0 q1 q2 c0 c1 c2;go_wp2;go_roundw;case rel=>
     refine ⟨k + 1,_,by omega,by go_num,rfl,?_,?_⟩
     . rw [nK.out];exact dD
     . exact (aI uo.out Hb.out).grown aZ zo (fun j e=>cP dh j e)
    case measure=>simp [intOf];omega
  . obtain rfl : k = n:=by omega
    have lv : Z.take k = Z:=List.take_of_length_le (by rw [rS.out];exact Nat.le_refl _);rw [lv] at pv;obtain ⟨a3,PI,rfl,RL,_⟩:=dG pv;have Cx:=ah RL;have Cs:=ah ((HT.out.below Hb.out).below pb);have Cv:=ah ((Ha.out.below Hb.out).below pb);have kR:=ah (aI Hb.out pb);clear Hb RL pv pb lv xJ vF;have Hb : Hid (Bw w wr):=kR;go_wp2_with fail;refine (ZW.out a3 PI _ Cv.out Cx.out Cs.out).mono ?_;rintro e w4 ⟨a4,c4,rfl,hl4,TQ,ae⟩;have Ig:=ah TQ;replace Hb:=ah (aI Hb.out ae);replace Cx:=ah (Cx.out.below ae);replace Cs:=ah (Cs.out.below ae);replace Cv:=ah (Cv.out.below ae);clear TQ ae;go_wp2_with fail;refine (ZV.out a3 PI _ Cv.out Cx.out Cs.out).mono ?_;rintro e w5 ⟨a5,c5,rfl,hl5,TR,ae⟩;have ZJ:=ah TR;replace Hb:=ah (aI Hb.out ae);replace Ig:=ah (Ig.out.below ae);clear TR ae;go_wp2;refine bodyPost_ret (v:=.tuple #[.slice a4 L c4,.slice a5 L c5,.int .i64 0]) (by simp [results,Tryz.results14,go_sem]) rfl ⟨a4,c4,a5,c5,rfl,hl4,hl5,Ig.out,ZJ.out,Hb.out⟩
theorem Tryz.anN : (Tryz.prog.info? 45).map (fun i=>(i.zero,i.size,i.bytes)) = some (some (.slice none 0 0),1,24):=by kernel_rfl
def iA (o p : List Raw) : List Dyadic:=List.zipWith (fun x y=>aB x - aB y) p o
theorem Dt {o p : List Raw} (h : p.length = o.length) : (iA o p).length = p.length:=by simp [iA,h]
theorem acN (o p : List Raw) (k : Nat) (h : k < p.length) (h' : k < o.length) : (iA o p).take (k + 1) = (iA o p).take k ++ [aB p[k] - aB o[k]]:=by unfold iA;rw [List.take_succ_eq_append_getElem zi];simp
theorem Own2.anQ {e : TypeId} {w : World} {base k : Nat} {R : List (List Dyadic)} {v : Value} (h : Own2 e w base R k v) (hk : R.length = k) : ∃ a c,v = .slice a k c /\ k <= c /\ aW w a (R.map fun r=>r.map canon):=by
 obtain ⟨vals,hl,ho,hi⟩:=h;obtain ⟨a,c,hv,hat,_⟩:=dG ho;subst hv;refine ⟨a,c,rfl,Fi ho,vals,by simp [hl,hk],hat,fun i h1 h2=>?_⟩;obtain ⟨a1,c1,e1,e2,_⟩:=hi i h2;have hi1 : i < R.length:=by simpa using h1
 have eg : R.getD i [] = R[i]:=by simp [hi1]
 rw [eg] at e1 e2;refine ⟨a1,c1,?_,?_⟩
 . rw [e1];simp
 . rw [List.getElem_map,<- sB];exact e2
theorem VV (b o cap m n : Nat) (rows : List (List Raw)) (B : Nat) (w : World) (hL : rows.length = m + 1) (hm : m <= 8) (hcap : m + 1 <= cap) (sU : 1 <= m) (hn : 1 <= n) (xE : n <= 8) (hrow : ∀ r ∈ rows,r.length = n) (ha : aW w (some ⟨b,o,none⟩) rows)
 (hfit : ∀ r ∈ rows,∀ c ∈ r,Fit B c) (hB : B <= 10000000) (hT : az w) :
 Calls Tryz.prog 46 #[.slice (some ⟨b,o,none⟩) (m + 1) cap] w fun e w'=>∃ a' c',e = .returned (.slice a' m c') /\ m <= c' /\
  aW w' a' (((rows.drop 1).map fun p=>iA (rows.getD 0 []) p).map fun r=>r.map canon) /\ Bw w w':=by
 obtain ⟨i0,hi,hz0,hz1,hz2⟩:=info_parts Tryz.anG;obtain ⟨j0,hj,hy0,hy1,hy2⟩:=info_parts Tryz.anN;obtain ⟨S,hS⟩ : ∃ S,((rows.drop 1).map fun p=>iA (rows.getD 0 []) p) = S:=⟨_,rfl⟩;have Rs : S.length = m:=by rw [<- hS];simp [hL]
 have oh : ∀ k (h0 : 0 < rows.length) (h1 : k + 1 < rows.length),S.getD k [] = iA rows[0] rows[k + 1]:=by
  intro k h0 h1;subst hS;have e0 : rows.getD 0 [] = rows[0]:=by simp [h0]
  rw [e0];have h2 : k < (rows.drop 1).length:=by simp;omega
  simp [h1]
 rw [hS];have hcell:=fun (W : World) (h : aW W (some ⟨b,o,none⟩) rows) (k : Nat) (hk : k < rows.length)=>h.row k hk;have Hi:=ah hi;have cM:=ah hz0;have cN:=ah hz1;have cH:=ah hz2;have Hj:=ah hj;have jL:=ah hy0;have lN:=ah hy1;have lO:=ah hy2;have XC:=ah Rs;have rQ:=ah oh;have NR:=ah hcell;have HT:=ah hT;have Ha:=ah ha;have uz:=ah hrow;have yT:=ah hfit;have HL:=ah hL;clear hi hz0 hz1 hz2 hj hy0 hy1 hy2 hS Rs oh hcell ha hT hL hrow hfit;have e1 : m + 1 - 1 = m:=by omega
 have e2 : ¬ cap = 1:=by omega
 go_enter Tryz.func46,Tryz.ntmps46;have Hb : Hid (Bw w w):=Below.refl _ _;go_wp2_with fail;obtain ⟨r0,vv⟩ : ∃ r0,rows[0]'(by rw [HL.out];omega) = r0:=⟨_,rfl⟩;obtain ⟨_,_,a0,c0,gy,hc0,iq⟩:=NR.out w Ha.out 0 (by rw [HL.out];omega);obtain ⟨rfl,rfl⟩ : b = _ /\ o = _:=by simp at gy;exact gy
 have hn0 : r0.length = n:=by rw [<- vv];exact uz.out _ (List.getElem_mem _)
 have AB : ∀ x ∈ r0,Fit B x:=by rw [<- vv];exact yT.out _ (List.getElem_mem _)
 have lT : ∀ k (h1 : k + 1 < rows.length),S.getD k [] = iA r0 rows[k + 1]:=fun k h1=>by rw [rQ.out k zo h1,vv]
 rw [vv] at hc0 iq;rw [hn0] at hc0;rw [Nat.add_zero] at hc0;have xJ:=kI (m + 1) cap 0 0 (show some (⟨b,o,none⟩ : Addr) = some ⟨b,o,none⟩ from rfl) zo rfl;rw [Nat.mul_one,Nat.add_zero] at xJ;have rV:=ah hc0;have iw:=ah iq;have uw:=ah hn0;have Gt:=ah AB;have XB:=ah lT;have vH : b < w.heap.size:=World.block_lt_of_cell? w _ hc0;clear hc0 iq hn0 AB lT vv gy Hb;go_loopw [3,11] (fun s3 x wr=>∃ (k : Nat) (v : Value),k <= m /\ x = .int .i64 (k : Int) /\ v = s3 /\ Own2 45 wr w.heap.size S k v /\ Bw w wr) (fun _ x _=>m - (intOf x).toNat);case atStart=>exact ⟨0,_,Nat.zero_le _,rfl,rfl,Own2.nil _ _ _ _,Below.refl _ _⟩
 case round=>
  obtain ⟨k,v,hk,rfl,rfl,pv,pb⟩:=hrel;by_cases hlt : k < m
  . have hk2 : k + 1 < rows.length:=by rw [HL.out];omega
    obtain ⟨p,gT⟩ : ∃ p,rows[k + 1] = p:=⟨_,rfl⟩;obtain ⟨_,_,a1,c1,hab,hc1,hat⟩:=NR.out wr (Ha.out.below pb) (k + 1) hk2;obtain ⟨rfl,rfl⟩ : b = _ /\ o = _:=by simp at hab;exact hab
    have mQ : p.length = n:=by rw [<- gT];exact uz.out _ (List.getElem_mem hk2)
    have iu : ∀ x ∈ p,Fit B x:=by rw [<- gT];exact yT.out _ (List.getElem_mem hk2)
    have qX:=XB.out k hk2;rw [gT] at hc1 hat qX;rw [mQ] at hc1;have kG:=kI m (cap - 1) k (k : Int) (show some (⟨b,o + 1,none⟩ : Addr) = some ⟨b,o + 1,none⟩ from rfl) hlt rfl;rw [Nat.mul_one] at kG;have aez : wr.cell? ⟨b,o + 1 + k,none⟩ = some (.slice a1 n c1):=by rw [show o + 1 + k = o + (k + 1) by omega];exact hc1
    obtain ⟨Z,hZ⟩ : ∃ Z,iA r0 p = Z:=⟨_,rfl⟩;rw [hZ] at qX;have fN:=ah hat;have kY:=ah mQ;have oU:=ah iu;have wA:=ah qX;have HZ:=ah hZ;have aQ:=ah pb;have dt:=ah pv;clear hat mQ iu qX hZ pb pv hab gT hc1;have gV:=aQ.out.size;obtain ⟨wc,hwc⟩ : ∃ wc,wc = wr:=⟨_,rfl⟩;subst hwc;go_wp2_with fail;go_loopw [6,17] (fun s6 x wr=>∃ (j : Nat) (v2 : Value),j <= n /\ x = .int .i64 (j : Int) /\ v2 = s6 /\ wr.ownsRow wc.heap.size 30 3 v2 j (dC (Z.take j)) /\ Bw wc wr) (fun _ x _=>n - (intOf x).toNat);case atStart=>exact ⟨0,_,Nat.zero_le _,rfl,rfl,World.ownsRow_nil _ _ _ _,Below.refl _ _⟩
    case round=>
     clear aez;obtain ⟨j,v2,hj,rfl,rfl,ho,hb2⟩:=hrel;by_cases bi : j < n
     . have k1 : j < p.length:=by rw [kY.out];exact bi
       have k2 : j < r0.length:=by rw [uw.out];exact bi
       obtain ⟨sp,mp,ep,gF⟩ : ∃ s m e,p[j] = (s,m,e):=⟨_,_,_,rfl⟩;obtain ⟨sq,mq,eq,mU⟩ : ∃ s m e,r0[j] = (s,m,e):=⟨_,_,_,rfl⟩;have eH:=oU.out _ (List.getElem_mem k1);have ma:=Gt.out _ (List.getElem_mem k2);rw [gF] at eH;rw [mU] at ma;obtain ⟨X,hX⟩ : ∃ X,aB (sp,mp,ep) - aB (sq,mq,eq) = X:=⟨_,rfl⟩;have nK : Hid (dC (Z.take (j + 1)) = dC (Z.take j) ++ [.bool (ar (dN X)),.string (bs (nt (dN X).natAbs)),.int .i64 (dE X)]):=by
        show _ = _
        rw [<- HZ.out,acN _ _ _ k1 k2,xb,gF,mU,hX];rfl
       have dL:=aI aQ.out hb2;obtain ⟨b1,o1,dM,p0,p1,p2⟩:=(fN.out.below hb2).num j k1 gF;obtain ⟨b2,o2,gz,q0,q1,q2⟩:=(iw.out.below dL).num j k2 mU;have SK:=mV n c1 j (j : Int) dM bi rfl;have aly:=mV n c0 j (j : Int) gz bi rfl;have jV : b1 < wc.heap.size:=(by subst dM;exact fN.out.lt (by intro h0;have:=congrArg List.length h0;rw [jq bF 3 (fun _=>rfl)] at this;simp at this;omega));have iH : b2 < wc.heap.size:=Nat.lt_of_lt_of_le (by subst gz;exact iw.out.lt (by intro h0;have:=congrArg List.length h0;rw [jq bF 3 (fun _=>rfl)] at this;simp at this;omega)) gV;have lbc : b < wc.heap.size:=Nat.lt_of_lt_of_le vH gV;have Hu : Hid (bo wr b o [.slice a0 n c0]):=fun i hi=>by
        obtain rfl : i = 0:=by simp at hi;omega
        exact cell_later dL rV.out
       have Hp : Hid (bo wr b1 (o1 + j * 3) [.bool sp,.string (bs mp),.int .i64 ep]):=iK p0 p1 p2;have Hq : Hid (bo wr b2 (o2 + j * 3) [.bool sq,.string (bs mq),.int .i64 eq]):=iK q0 q1 q2;have kU:=ah eH;have wI:=ah ma;have HX:=ah hX;have Ho:=ah ho;have uo:=ah hb2;have aY:=ah (HT.out.below dL);have ym:=hb2.size;clear ho hb2 eH ma hX gF mU dM gz p0 p1 p2 q0 q1 q2 dL;have Hb : Hid (Bw wr wr):=Below.refl _ _;go_wp2_with fail;have u0:=Hu.out.w1;obtain ⟨p0,p1,p2⟩:=Hp.out.w3;obtain ⟨q0,q1,q2⟩:=Hq.out.w3;refine bG (fun w'=>w'.cell? ⟨b,o,none⟩ = some (.slice a0 n c0) /\ w'.cell? ⟨b1,o1 + j * 3,none⟩ = some (.bool sp) /\ w'.cell? ⟨b1,o1 + j * 3 + 1,none⟩ = some (.string (bs mp)) /\ w'.cell? ⟨b1,o1 + j * 3 + 2,none⟩ = some (.int .i64 ep) /\ w'.cell? ⟨b2,o2 + j * 3,none⟩ = some (.bool sq) /\ w'.cell? ⟨b2,o2 + j * 3 + 1,none⟩ = some (.string (bs mq)) /\ w'.cell? ⟨b2,o2 + j * 3 + 2,none⟩ = some (.int .i64 eq)) (fun i=>Nat.blt i 100000) [(0,true),(1,true),(2,true),(3,true),(4,true),(5,true),(6,true),(7,true),(8,true),(9,true),(10,true),(11,false),(12,false),(13,false),(14,true)] zk zk rfl zk zc ⟨u0,p0,p1,p2,q0,q1,q2⟩ ?_;iterate 11 (refine pT rfl rfl ?_ (by intro w' ⟨q0,q1,q2,q3,q4,q5,q6⟩;go_simp;try with_reducible rfl);try simp only [UU])
       refine aH rfl rfl (fun K hK=>?_);go_simp;with_reducible refine (xe sp mp ep sq mq eq X B HX.out _ kU.out wI.out zo (by first | exact aY.out | exact az.drew aY.out | exact az.alloc aY.out _ | exact az.drew (az.alloc aY.out _) | exact az.alloc (az.drew aY.out) _)).mono ?_
       rintro e w6 ⟨rfl,hq⟩;have ae : Bw wr w6:=by first | exact hq | exact aM hq
       clear u0 p0 p1 p2 q0 q1 q2;replace Hu:=kW Hu ae;replace Hp:=kW Hp ae;replace Hq:=kW Hq ae;have u0:=Hu.out.w1;obtain ⟨p0,p1,p2⟩:=Hp.out.w3;obtain ⟨q0,q1,q2⟩:=Hq.out.w3;replace Hb:=au Hb ae;clear ae;refine hK _ _ (fun _=>⟨u0,p0,p1,p2,q0,q1,q2⟩) ?_;clear hK K;try simp only [UU]
       refine aH rfl rfl (fun K hK=>?_);go_simp;refine hK _ _ (fun _=>⟨aG u0,aG p0,aG p1,aG p2,aG q0,aG q1,aG q2⟩) ?_;clear hK K;try simp only [UU]
       refine bJ (fun w7=>ai w7 (w6.heap.size) 30 [.bool (ar (dN X)),.string (bs (nt (dN X).natAbs)),.int .i64 (dE X)] /\ Bw w6 w7) (by first | exact dQ | exact dR) ?_;rintro w7 ⟨qc,ae⟩;clear u0 p0 p1 p2 q0 q1 q2;replace Hu:=kW Hu ae;replace Hp:=kW Hp ae;replace Hq:=kW Hq ae;have Hc:=ah qc;clear qc;have u0:=Hu.out.w1;obtain ⟨p0,p1,p2⟩:=Hp.out.w3;obtain ⟨q0,q1,q2⟩:=Hq.out.w3;obtain ⟨c0,c1,c2⟩:=Hc.out.c3;replace Hb:=au Hb ae;clear ae;refine aH rfl rfl (fun K hK=>?_);have dh:=ownsRow_below Ho.out Hb.out;have jv:=Hb.out.size;refine wp_append_own _ _ _ 45 rfl wc.heap.size 30 i0 _ 3 32 Tryz.underlying45 Hi.out cM.out cN.out cH.out rfl zd v2 j (dC (Z.take j)) rfl dh ⟨w6.heap.size,0,none⟩ 1 1 [.bool (ar (dN X)),.string (bs (nt (dN X).natAbs)),.int .i64 (dE X)] rfl rfl (gv Hc.out) zy zx zo zo ?_;intro v' w8 dD aZ _;obtain ⟨g',cq,rfl⟩:=ownsRow_succ dD;have nb : ∀ b,b < wc.heap.size -> some b ≠ v2.ownBlock:=fun b hb e=>by have:=cP dh b e.symm;omega
       refine hK _ _ (fun _=>⟨bT aZ u0 (nb _ lbc),bT aZ p0 (nb _ jV),bT aZ p1 (nb _ jV),bT aZ p2 (nb _ jV),bT aZ q0 (nb _ iH),bT aZ q1 (nb _ iH),bT aZ q2 (nb _ iH)⟩) ?_;clear hK K;try simp only [UU]
       refine pT rfl rfl ?_;try simp only [UU]
       simp only [aU];clear u0 p0 p1 p2 q0 q1 q2 c0 c1 c2;go_wp2;go_roundw;case rel=>
        refine ⟨j + 1,_,by omega,by go_num,rfl,?_,?_⟩
        . rw [nK.out];exact dD
        . exact (aI uo.out Hb.out).grown aZ zo (fun j e=>cP dh j e)
       case measure=>simp [intOf];omega
     . obtain rfl : j = n:=by omega
       have lv : Z.take j = Z:=List.take_of_length_le (by rw [<- HZ.out,Dt (by rw [kY.out,uw.out]),kY.out];exact Nat.le_refl _);rw [lv] at ho;obtain ⟨a2,cap2,rfl,ou,gz⟩:=dG ho;have fX:=ho.lt;obtain ⟨vals,hvl,hov,iV⟩:=dt.out.below hb2;have Hb : Hid (Bw wr wr):=Below.refl _ _;obtain ⟨_,_,oG,_⟩:=dt.out;have hvs:=oG.lt;have hin : ∀ b o,a2 = some ⟨b,o,none⟩ -> some b ≠ v.ownBlock /\ b < wr.heap.size:=by intro b o e;subst e;have h1:=fX b rfl;refine ⟨fun h2=>?_,h1.2⟩;have h3:=hvs b h2.symm;omega
       have nE:=ah hin;have yF:=ah ou;have lM:=ah hvl;have qO:=ah iV;have cB:=ah hov;have bV:=ah hb2;have BV:=hb2.size;have rS : Hid (Z.length = j):=by show _ = _;rw [<- HZ.out,Dt (by rw [kY.out,uw.out]),kY.out]
       clear hin ou hvl iV hov oG hvs hb2 gz fX lv ho bi hj;obtain ⟨W6,fp⟩ : ∃ W6,(wr.alloc (.cells #[.slice a2 j cap2] 45)) = W6:=⟨_,rfl⟩;have ae : Bw wr W6:=by rw [<- fp];exact zl
       have Hd : Hid (ai W6 (wr.heap.size) 45 [.slice a2 j cap2]):=by rw [<- fp];exact ai.newAt _ _ _ zm
       have d0:=Hd.out.c1;replace Hb:=au Hb ae;clear ae;have dh:=ownsRow_below cB.out Hb.out;have jv:=Hb.out.size;have hnews : ∀ i u,([.slice a2 j cap2] : List Value)[i]? = some u -> W6.cell? ((⟨wr.heap.size,0,none⟩ : Addr).add i) = some u:=gv Hd.out;clear d0;go_wp2_with (at_builtin;refine wpList_append_own_at _ rfl _ _ 78 rfl w.heap.size 45 j0 _ 1 24 Tryz.underlying78 Hj.out jL.out lN.out lO.out rfl zd v k vals rfl dh ⟨wr.heap.size,0,none⟩ 1 1 [.slice a2 j cap2] rfl rfl hnews zy zx zo zo ?_;intro v' w7 dX fq _ fR;obtain ⟨g',mK,rfl⟩:=ownsRow_succ dX);go_roundw;case rel=>
        refine ⟨k + 1,_,by omega,by go_num,rfl,?_,?_⟩
        . refine Own2.push (a:=a2) (c:=cap2) lM.out (w:=W6) ?_ ?_ ?_ ?_ fq fR
          . intro i h;obtain ⟨a,c,h1,h2,h3⟩:=qO.out i h;exact ⟨a,c,h1,h2.below Hb.out,fun b o e=>⟨(h3 b o e).1,Nat.lt_of_lt_of_le (h3 b o e).2 jv⟩⟩
          . rw [wA.out];exact yF.out.below Hb.out
          . exact fun b o e=>⟨(nE.out b o e).1,Nat.lt_of_lt_of_le (nE.out b o e).2 jv⟩
          . rw [wA.out,rS.out];exact dX
        . exact (aI (aI aQ.out bV.out) Hb.out).grown fq zo (fun j e=>cP dh j e)
       case measure=>simp [intOf];omega
  . obtain rfl : k = m:=by omega
    obtain ⟨a2,c2,rfl,hcl,jw⟩:=Own2.anQ pv XC.out;have oV:=ah jw;have aQ:=ah pb;clear pv pb jw;go_wp2;refine bodyPost_ret (results_tmp rfl _ _ _) rfl ⟨a2,c2,rfl,hcl,oV.out,aQ.out⟩
end Go.Proofs.YtdaadlblknpipaaGreatDoor
namespace Go.Proofs.YtdaadlblknpipaaGreatDoor
end Go.Proofs.YtdaadlblknpipaaGreatDoor
