/- Package ogeeref08: Var,Check of what may be,Scale,Terms,Same. -/
import Derived.Test.YtdaadlblknpipaaGreatDoorZ20
import Derived.Test.YtdaadlblknpipaaGreatDoorZ22
set_option linter.unusedVariables false
set_option linter.unusedSimpArgs false
set_option maxRecDepth 100000
set_option maxHeartbeats 16000000
namespace Go.Proofs.YtdaadlblknpipaaGreatDoor
open Go.RowKit
attribute [local go_sem ↓] Go.wp_at_zero Go.wp_at_succ
theorem aiT (V k : Nat) (w : World) (hV : V <= 12) (hk : k < V) :
 Calls Tryz.prog 42 #[.int .i64 (V : Int),.int .i64 (k : Int)] w fun ex w'=>∃ a' c',ex = .returned (.tuple #[.agg #[.int .i64 (V : Int),.slice a' (bH [(cL V k,canon 1)]).length c'],.int .i64 0]) /\ cm w' a' c' (bH [(cL V k,canon 1)]) /\ Bw w w':=by
 obtain ⟨C,hC⟩ : ∃ C,bH [(cL V k,canon 1)] = C:=⟨_,rfl⟩;rw [hC];obtain ⟨O,hO⟩ : ∃ O : Dyadic,(1 : Dyadic) = O:=⟨_,rfl⟩;have hmk:=fun W b (hb : ai W b 107 [.string (bs (cL V k)),.bool (ar (dN O)),.string (bs (nt (dN O).natAbs)),.int .i64 (dE O)])=>VS V (some ⟨b,0,none⟩) 1 1 [(cL V k,canon 1)] 1 W rfl zo (by rw [hO];exact At.anF hb) (by intro t ht;simp at ht;subst ht;exact Sm.anI Sm.one zd) (by intro t ht;simp at ht;subst ht;show Sm 1 (aB (canon 1));rw [bU];exact Sm.one) zo;rw [hC] at hmk;have hof : ∀ W,Calls Tryz.prog 62 #[.int .i64 1] W fun e w'=>e = .returned (bM O) /\ Bw W w':=fun W=>aiy 1 O hO W zd;have hmb:=fun W=>pM (V : Int) V rfl zo W;have hcv : ∀ W b,Hid (ai W b 5 (cj V fun j=>if j = k then 1 else 0)) -> (convert 111 9 (.slice (some ⟨b,0,none⟩) V V)).run Tryz.prog W = .ok (.string (bs (cL V k))) W:=fun W b h=>by rw [<- WF V k];exact vY h.out V
 have bD:=fun b=>tB V V k (k : Int) (rfl : (some ⟨b,0,none⟩ : Option Addr) = _) hk rfl;simp only [Nat.zero_add,Nat.mul_one] at bD;have hget : (cj V fun _=>0)[k]? = some (.int .u8 0):=jE _ _ _ hk;have lC : (cj V fun _=>0).set k (.int .u8 1) = cj V fun j=>if j = k then 1 else 0:=vZ V _ k 1
 have qH:=ah hmk;have rY:=ah hof;clear hmk hof hC hO;have oD : ¬ (k : Int) < 0:=by omega
 have hVi : ¬ (V : Int) < 0:=by omega
 have hV2 : ¬ (12 : Int) < (V : Int):=by omega
 have hkV : ¬ (V : Int) <= (k : Int):=by omega
 obtain ⟨W,aK⟩ : ∃ W,(w.alloc (.cells #[.int .i64 0,.slice none 0 0] 57)) = W:=⟨_,rfl⟩;have Hb : Hid (Bw w W):=by rw [<- aK];exact zl
 have Hr : Hid (ai W (w.heap.size) 57 [.int .i64 0,.slice none 0 0]):=by rw [<- aK];exact ai.newAt _ _ _ zm
 obtain ⟨r0,aj,r1,ak⟩:=Hr.out.g2;go_enter Tryz.func42,Tryz.ntmps42;go_wp2_with fail;have hrl:=Hr.out.lt;obtain ⟨R,hR⟩ : ∃ R : World -> Prop,(fun W3=>ai W3 W.heap.size 5 (cj V fun j=>if j = k then 1 else 0) /\ Bw W W3) = R:=⟨_,rfl⟩;first | refine bE R ?hR ?_ | refine bC R ?hR ?_
 case hR=>subst hR;exact ⟨ai.newAt W _ _ (b:=W.heap.size) rfl,zl⟩
 subst hR;intro W3 ⟨qm,ae⟩;clear r0 aj r1 ak;replace Hr:=kB Hr ae;obtain ⟨r0,aj,r1,ak⟩:=Hr.out.g2;replace Hb:=ah (aI Hb.out ae);have Hm:=ah qm;clear qm ae hget lC bD hmb;have qo : ∀ w',ic W3 w' -> (convert 111 9 (.slice (some ⟨W.heap.size,0,none⟩) V V)).run Tryz.prog w' = .ok (.string (bs (cL V k))) w':=fun w' h=>hcv w' _ (ah (Hm.out.below h));have bI : Hid (ic W3 W3):=Below.refl _ _;refine bG (fun w'=>ic W3 w') (fun i=>Nat.blt i 9) [(0,true),(1,true),(2,true),(3,false),(4,true),(5,false),(6,false),(7,true),(8,true),(9,false),(10,false)] zk zk rfl zk zc bI.out.drew ?_;iterate 3 (refine LW rfl rfl (v:=?_) (fun w' hw'=>?_) ?_;rotate_left;(focus have hw':=qo w' hw';go_simp;try with_reducible rfl);try simp only [UU])
 refine aH rfl rfl (fun K hK=>?_);go_simp;with_reducible refine (rY.out _).mono ?_
 rintro e w4 ⟨rfl,hq⟩;have ae : Bw W3 w4:=by first | exact hq | exact aM hq
 clear r0 aj r1 ak;replace bI:=ah (bI.out.below ae);replace Hr:=kB Hr ae;obtain ⟨r0,aj,r1,ak⟩:=Hr.out.g2;replace Hb:=au Hb ae;clear ae;refine hK _ _ (fun _=>bI.out) ?_;clear hK K;try simp only [UU]
 refine pT rfl rfl ?_;try simp only [UU]
 refine aH rfl rfl (fun K hK=>?_);go_simp;refine hK _ _ (fun _=>by first | exact bI.out.alloc _ | exact (bI.out.alloc _).drew | exact (bI.out.drew).alloc _) ?_;clear hK K;try simp only [UU]
 refine bJ (fun W5=>ai W5 (w4.heap.size) 107 [.string (bs (cL V k)),.bool (ar (dN O)),.string (bs (nt (dN O).natAbs)),.int .i64 (dE O)] /\ Bw w4 W5) (by first | exact dQ | exact dR) ?_;rintro W5 ⟨qz,ae⟩;clear r0 aj r1 ak;have ET:=Hr.out.lt;replace bI:=ah (bI.out.below ae);replace Hr:=kB Hr ae;have Hz:=ah qz;clear qz;obtain ⟨r0,aj,r1,ak⟩:=Hr.out.g2;obtain ⟨z0,z1,z2,z3⟩:=Hz.out.c4;replace Hb:=au Hb ae;clear ae;refine aH rfl rfl (fun K hK=>?_);go_simp;with_reducible refine (qH.out _ _ Hz.out).mono ?_
 rintro e w6 ⟨a2,d2,rfl,dO,hq⟩;have ae : Bw W5 w6:=by first | exact hq | exact aM hq
 clear r0 aj r1 ak z0 z1 z2 z3;replace bI:=ah (bI.out.below ae);replace Hr:=kB Hr ae;replace Hz:=kB Hz ae;obtain ⟨r0,aj,r1,ak⟩:=Hr.out.g2;obtain ⟨z0,z1,z2,z3⟩:=Hz.out.c4;replace Hb:=au Hb ae;clear ae;refine hK _ _ (fun _=>bI.out) ?_;clear hK K;try simp only [UU]
 iterate 2 (refine pT rfl rfl ?_;try simp only [UU])
 refine aH rfl rfl (fun K hK=>?_);go_simp;refine hK _ _ (by first | exact fun h=>absurd h zd | exact fun _=>bI.out | exact fun _=>eQ zg bI.out) ?_;clear hK K;try simp only [UU]
 refine aH rfl rfl (fun K hK=>?_);go_simp;refine hK _ _ (fun h=>absurd h zd) ?_;clear hK K;try simp only [UU]
 simp only [aU];go_wp2;have h9:=dO.store Hr.out zd (.int .i64 (V : Int)) (.slice a2 C.length d2);refine fO (fun w9=>cm w9 a2 d2 C /\ ai w9 w.heap.size 57 [.int .i64 (V : Int),.slice a2 C.length d2] /\ Bw w w9) ⟨h9,(Hr.out.set 0 _).set 1 _,(Hb.out.setCell (Nat.le_refl _) _).setCell (Nat.le_refl _) _⟩ ?_;rintro w9 ⟨q1,q2,q3⟩;obtain ⟨p0,p1⟩:=q2.c2;exact bodyPost_ret (v:=.tuple #[.agg #[.int .i64 (V : Int),.slice a2 C.length d2],.int .i64 0]) (by simp [results,Tryz.results42,go_sem,p0,p1]) rfl ⟨_,_,rfl,q1,q3⟩
theorem ahK {V : Nat} {ts : List aJ} (h : zJ V ts) (k : Nat) (hk : k < ts.length) : fy ts[k].1 V = true /\ aB ts[k].2 ≠ 0 /\ ts[k].2 = canon (aB ts[k].2) /\ (0 < k -> Op.bytesLess (ts[k - 1]'zo).1 ts[k].1 = true):=by obtain ⟨⟨h1,h2⟩,h3,h4,h5⟩:=h;have hm:=List.getElem_mem hk;exact ⟨h3 _ hm,(h2 _ hm).1,(h2 _ hm).2,fun h0=>List.pairwise_iff_getElem.1 h1 (k - 1) k zo hk zo⟩
theorem aiA (V : Nat) (a : Option Addr) (cap N : Nat) (ts : List aJ) (w : World) (hN : ts.length = N) (ha : At w a (ts.flatMap aL)) (hp : zJ V ts) (hf : ∀ t ∈ ts,gp t.2) :
 Calls Tryz.prog 82 #[.agg #[.int .i64 (V : Int),.slice a N cap]] w fun e w'=>e = .returned (.int .i64 0) /\ Bw w w':=by
 have hn : N <= 4096:=by rw [<- hN];exact hp.2.2.1
 have hV : V <= 12:=hp.2.2.2;have hg:=fun k hk=>ahK hp k hk;have Ha:=ah ha;have Hg:=ah hg;have HN:=ah hN;have Hf:=ah hf;clear ha hg hN hf hp;have hVi : ¬ (V : Int) < 0:=by omega
 have hV2 : ¬ (12 : Int) < (V : Int):=by omega
 have bj : ¬ (4096 : Int) < (N : Int):=by omega
 have alG : decide ((4096 : Int) < (N : Int)) = false:=by simp;omega
 obtain ⟨W,aK⟩ : ∃ W,(w.alloc (.cells #[.int .i64 (V : Int),.slice a N cap] 57)) = W:=⟨_,rfl⟩;have Hb : Hid (Bw w W):=by rw [<- aK];exact zl
 have Hp : Hid (ai W (w.heap.size) 57 [.int .i64 (V : Int),.slice a N cap]):=by rw [<- aK];exact ai.newAt _ _ _ zm
 obtain ⟨p0,p1⟩:=Hp.out.c2;go_enter Tryz.func82,Tryz.ntmps82;go_wp2_with fail;go_loopw [3] (fun x wr=>∃ k : Nat,k <= N /\ x = .int .i64 (k : Int) /\ ai wr w.heap.size 57 [.int .i64 (V : Int),.slice a N cap] /\ Bw w wr) (fun x _=>N - (intOf x).toNat);case atStart=>exact ⟨0,Nat.zero_le _,rfl,Hp.out,Hb.out⟩
 case round=>
  clear p0 p1 Hp Hb;obtain ⟨k,hk,rfl,gT,pb⟩:=hrel;by_cases hlt : k < N
  . have hk2 : k < ts.length:=by rw [HN.out];exact hlt
    obtain ⟨l,s,m,e,hx⟩ : ∃ l s m e,ts[k] = (l,s,m,e):=⟨_,_,_,_,rfl⟩;obtain ⟨b,o,hab,cn⟩:=(Ha.out.below pb).term k hk2 hx;obtain ⟨g1,g2,g3,g4⟩:=Hg.out k hk2;have dm : gp (s,m,e):=by have:=Hf.out _ (List.getElem_mem hk2);rw [hx] at this;exact this
    have hfl : m.length <= 16384:=dm.1;rw [hx] at g1 g2 g3;simp only [hx] at g4;obtain ⟨X,hX⟩ : ∃ X,aB (s,m,e) = X:=⟨_,rfl⟩;obtain ⟨sg,gK⟩ : ∃ sg,bR X = sg:=⟨_,rfl⟩;have hs1 : (sg == 0) = false:=by rw [<- gK,uN,<- hX];exact g2
    have hne:=LL X s m e false (by rw [<- hX];simpa using g3.symm);have oF:=fun W=>aiv l (V : Int) W (by have hll : l.length = V:=UW g1;omega);rw [g1] at oF;have bD:=iG N cap k (k : Int) hab hlt rfl;have TJ:=fun W=>Fs s m e sg (by rw [hX];exact gK) W zo;have hfo:=fun W=>yj s m e X hX W dm;have qG:=ah oF;have ZF:=ah TJ;have Yn:=ah hfo;have aQ:=ah pb;have jG:=ah hab;have Hp:=ah gT;have kv : Hid (bo wr b (o + k * 4) [.string (bs l),.bool s,.string (bs m),.int .i64 e]):=cn;have sz:=pb.size;clear oF TJ hfo pb gT cn hX gK g1 g2 g3 dm hab;have Hb : Hid (Bw wr wr):=Below.refl _ _;obtain ⟨p0,p1⟩:=Hp.out.c2;obtain ⟨rL,rM,rN,rO⟩:=kv.out.w4;have P0:=rL;have P1:=rM;have P2:=rN;have P3:=rO;have Q1:=p1;have agu:=Hp.out.lt;obtain ⟨W4,eO⟩ : ∃ W4,(wr.alloc (.cells #[.string (bs l),.bool s,.string (bs m),.int .i64 e] 107)) = W4:=⟨_,rfl⟩;have ae : Bw wr W4:=by rw [<- eO];exact zl
    clear p0 p1;replace Hp:=kB Hp ae;clear rL rM rN rO;replace kv:=kW kv ae;have Ht : Hid (ai W4 (wr.heap.size) 107 [.string (bs l),.bool s,.string (bs m),.int .i64 e]):=by rw [<- eO];exact ai.newAt _ _ _ zm
    obtain ⟨p0,p1⟩:=Hp.out.c2;obtain ⟨rL,rM,rN,rO⟩:=kv.out.w4;obtain ⟨t0,t1,t2,t3⟩:=Ht.out.c4;replace Hb:=au Hb ae;clear ae;go_wp2_with fail;clear P0 P1 P2 P3 Q1 rL rM rN rO kv;refine bG (fun w'=>w'.cell? ⟨w.heap.size,0,none⟩ = some (.int .i64 (V : Int)) /\ w'.cell? ⟨w.heap.size,1,none⟩ = some (.slice a N cap) /\ w'.cell? ⟨wr.heap.size,0,none⟩ = some (.string (bs l)) /\ w'.cell? ⟨wr.heap.size,1,none⟩ = some (.bool s) /\ w'.cell? ⟨wr.heap.size,2,none⟩ = some (.string (bs m)) /\ w'.cell? ⟨wr.heap.size,3,none⟩ = some (.int .i64 e)) (fun i=>Nat.blt i 100000) [(0,true),(1,true),(2,true),(3,true),(4,false),(5,true),(6,true),(7,true),(8,true),(9,false),(10,true),(11,true),(12,true),(13,true),(14,true),(16,true),(17,true),(15,false),(18,true),(19,true)] zk zk rfl zk zc ⟨p0,p1,t0,t1,t2,t3⟩ ?_;iterate 4 (refine pT rfl rfl ?_ (by intro w' ⟨q0,q1,q2,q3,q4,q5⟩;go_simp;try with_reducible rfl);try simp only [UU])
    refine aH rfl rfl (fun K hK=>?_);go_simp;with_reducible refine (qG.out _).mono ?_
    rintro e w5 ⟨rfl,hq⟩;have ae : Bw W4 w5:=by first | exact hq | exact aM hq
    clear p0 p1 t0 t1 t2 t3;replace Hp:=kB Hp ae;replace Ht:=kB Ht ae;obtain ⟨p0,p1⟩:=Hp.out.c2;obtain ⟨t0,t1,t2,t3⟩:=Ht.out.c4;replace Hb:=au Hb ae;clear ae;refine hK _ _ (fun _=>⟨p0,p1,t0,t1,t2,t3⟩) ?_;clear hK K;try simp only [UU]
    iterate 4 (refine pT rfl rfl ?_ (by intro w' ⟨q0,q1,q2,q3,q4,q5⟩;go_simp;try with_reducible rfl);try simp only [UU])
    refine aH rfl rfl (fun K hK=>?_);go_simp;with_reducible refine (ZF.out _).mono ?_
    rintro e w6 ⟨rfl,hq⟩;have ae : Bw w5 w6:=by first | exact hq | exact aM hq
    clear p0 p1 t0 t1 t2 t3;replace Hp:=kB Hp ae;replace Ht:=kB Ht ae;obtain ⟨p0,p1⟩:=Hp.out.c2;obtain ⟨t0,t1,t2,t3⟩:=Ht.out.c4;replace Hb:=au Hb ae;clear ae;refine hK _ _ (fun _=>⟨p0,p1,t0,t1,t2,t3⟩) ?_;clear hK K;try simp only [UU]
    iterate 7 (refine pT rfl rfl ?_ (by intro w' ⟨q0,q1,q2,q3,q4,q5⟩;go_simp;try with_reducible rfl);try simp only [UU])
    refine aH rfl rfl (fun K hK=>?_);go_simp;with_reducible refine (Yn.out _).mono ?_
    rintro e w7 ⟨rfl,hq⟩;have ae : Bw w6 w7:=by first | exact hq | exact aM hq
    clear p0 p1 t0 t1 t2 t3;replace Hp:=kB Hp ae;replace Ht:=kB Ht ae;obtain ⟨p0,p1⟩:=Hp.out.c2;obtain ⟨t0,t1,t2,t3⟩:=Ht.out.c4;replace Hb:=au Hb ae;clear ae;refine hK _ _ (fun _=>⟨p0,p1,t0,t1,t2,t3⟩) ?_;clear hK K;try simp only [UU]
    iterate 2 (refine pT rfl rfl ?_;try simp only [UU])
    simp only [aU];by_cases ju : k = 0
    . have hk1 : decide (0 < k) = false:=by simp;omega
      have aeO : decide ((0 : Int) < (k : Int)) = false:=by simp;omega
      clear ju g4;go_wp2_with fail;refine bG (fun w'=>w'.cell? ⟨w.heap.size,0,none⟩ = some (.int .i64 (V : Int)) /\ w'.cell? ⟨w.heap.size,1,none⟩ = some (.slice a N cap) /\ w'.cell? ⟨wr.heap.size,0,none⟩ = some (.string (bs l)) /\ w'.cell? ⟨wr.heap.size,1,none⟩ = some (.bool s) /\ w'.cell? ⟨wr.heap.size,2,none⟩ = some (.string (bs m)) /\ w'.cell? ⟨wr.heap.size,3,none⟩ = some (.int .i64 e)) (fun i=>Nat.blt i 100000) [(0,true),(1,true),(2,true),(3,true),(4,true),(5,true),(6,true),(7,true),(8,true),(9,true),(10,true),(11,true),(12,true),(13,true)] zk zk rfl zk zc ⟨p0,p1,t0,t1,t2,t3⟩ ?_;iterate 3 (refine pT rfl rfl ?_;try simp only [UU])
      refine aX rfl rfl ?_;try simp only [UU]
      refine aX rfl rfl ?_;try simp only [UU]
      refine aX rfl rfl ?_;try simp only [UU]
      refine aX rfl rfl ?_;try simp only [UU]
      refine aX rfl rfl ?_;try simp only [UU]
      refine aX rfl rfl ?_;try simp only [UU]
      refine aX rfl rfl ?_;try simp only [UU]
      refine aX rfl rfl ?_;try simp only [UU]
      refine aX rfl rfl ?_;try simp only [UU]
      refine aX rfl rfl ?_;try simp only [UU]
      refine pT rfl rfl ?_;try simp only [UU]
      simp only [aU];go_wp2;go_roundw;case rel=>exact ⟨k + 1,by omega,by go_num,Hp.out,(aI aQ.out Hb.out).drew⟩
      case measure=>simp [intOf];omega
    . have pD:=g4 zo;have lA : k - 1 < ts.length:=by omega
      obtain ⟨l',s',m',e',hx'⟩ : ∃ l s m e,ts[k - 1] = (l,s,m,e):=⟨_,_,_,_,rfl⟩;obtain ⟨b',o',pz,pI⟩:=(Ha.out.below (aI aQ.out Hb.out)).term (k - 1) lA hx';have hab:=jG.out;rw [hab] at pz;simp only [Option.some.injEq,Addr.mk.injEq,and_true] at pz;obtain ⟨rfl,rfl⟩:=pz;rw [hx'] at pD;have jQ : Op.bytesLess (bs l').toList (bs l).toList = true:=by rw [fw,fw];exact pD
      have hge : Op.bytesLess (bs l).toList (bs l').toList = false:=by
       rw [fw,fw];cases hc : Op.bytesLess l l' with
       | false=>rfl
       | true=>have:=zN pD hc;rw [wR] at this;cases this
      have aeO : decide ((0 : Int) < (k : Int)) = true:=by simp;omega
      have hk1 : decide (0 < k) = true:=by simp;omega
      have Ks : IntKind.i64.wrap ((k : Int) - 1) = ((k - 1 : Nat) : Int):=by rw [IntKind.wrap_i64];omega
      have Km:=iG N cap (k - 1) ((k - 1 : Nat) : Int) hab zo rfl;obtain ⟨kp,xC⟩ : ∃ kp,k - 1 = kp:=⟨_,rfl⟩;rw [xC] at Km Ks pI;have aeQ : kp < N:=by omega
      have dt : Hid (bo w7 b (o + kp * 4) [.string (bs l'),.bool s',.string (bs m'),.int .i64 e']):=pI;clear pI ju hx' xC hab pD g4 lA;obtain ⟨p0,p1⟩:=Hp.out.c2;obtain ⟨t0,t1,t2,t3⟩:=Ht.out.c4;have gG : w7.cell? ⟨b,o + kp * 4,none⟩ = some (.string (bs l')):=dt.out.cell 0 zm;go_wp2_with fail;refine bG (fun w'=>w'.cell? ⟨w.heap.size,0,none⟩ = some (.int .i64 (V : Int)) /\ w'.cell? ⟨w.heap.size,1,none⟩ = some (.slice a N cap) /\ w'.cell? ⟨wr.heap.size,0,none⟩ = some (.string (bs l)) /\ w'.cell? ⟨b,o + kp * 4,none⟩ = some (.string (bs l'))) (fun i=>Nat.blt i 100000) [(0,true),(1,true),(2,true),(3,true),(4,true),(5,true),(6,true),(7,true),(8,true),(9,true),(10,true),(11,true),(12,true),(13,true)] zk zk rfl zk zc ⟨p0,p1,t0,gG⟩ ?_;iterate 14 (refine pT rfl rfl ?_ (by intro w' ⟨q0,q1,q2,q3⟩;go_simp;try with_reducible rfl);try simp only [UU])
      simp only [aU];go_wp2;go_roundw;case rel=>exact ⟨k + 1,by omega,by go_num,Hp.out,(aI aQ.out Hb.out).drew⟩
      case measure=>simp [intOf];omega
  . obtain rfl : k = N:=by omega
    have Hp:=ah gT;have aQ:=ah pb;obtain ⟨p0,p1⟩:=Hp.out.c2;go_wp2;refine bodyPost_ret (results_tmp rfl _ _ _) rfl ⟨rfl,aQ.out⟩
theorem aiI (V : Nat) (a : Option Addr) (cap : Nat) (ts : List aJ) (s : Bool) (m : List UInt8) (e : Int) (D : Dyadic) (B : Nat) (w : World) (hp : iL V B ts) (ha : cm w a cap ts) (dm : gp (s,m,e)) (oJ : Sm B (aB (s,m,e))) (hB : 2 * B + 4096 <= 16384) (hD : aB (s,m,e) = D) :
 Calls Tryz.prog 43 #[.agg #[.int .i64 (V : Int),.slice a ts.length cap],.agg #[.bool s,.string (bs m),.int .i64 e]] w fun ex w'=>∃ a' c',ex = .returned (.tuple #[.agg #[.int .i64 (V : Int),.slice a' (bH (dv D ts)).length c'],.int .i64 0]) /\ cm w' a' c' (bH (dv D ts)) /\ Bw w w':=by
 obtain ⟨i0,hi,hz0,hz1,hz2⟩:=info_parts Tryz.anK;obtain ⟨n,hn⟩ : ∃ n,ts.length = n:=⟨_,rfl⟩;have hnl : n <= 4096:=by have:=hp.1.2.2.1;omega
 have gS : (dv D ts).length = n:=by unfold dv;rw [List.length_map,hn]
 have hsm : ∀ t ∈ ts,Sm B (aB t.2):=fun t ht=>(hp.2 t ht).2;have kF : ∀ t ∈ ts,gp t.2:=fun t ht=>by rw [(hp.1.1.2 t ht).2];exact (hsm t ht).anI zo
 rw [hD] at oJ;have pu : ∀ t ∈ dv D ts,Sm (2 * B) (aB t.2):=by
  intro t ht;unfold dv at ht;obtain ⟨x,hx,rfl⟩:=List.mem_map.1 ht;show Sm _ (aB (canon _))
  rw [bU];exact (Sm.mul (hsm x hx) oJ).mono zo
 have Am : ∀ t ∈ dv D ts,gp t.2:=by
  intro t ht;have h1:=pu t ht;unfold dv at ht;obtain ⟨x,hx,rfl⟩:=List.mem_map.1 ht;have h2 : Sm (2 * B) (aB x.2 * D):=by have h3 : aB (canon (aB x.2 * D)) = aB x.2 * D:=bU _;rw [<- h3];exact h1
  exact h2.anI zo
 have eP:=fun W (hW : Bw w W)=>aiA V a cap n ts W hn (ha.1.below hW) hp.1 kF;have sP:=fun W a' c' (h : At W a' ((dv D ts).flatMap aL))=>VS V a' n c' (dv D ts) (2 * B) W gS hnl h Am pu zo;obtain ⟨C,hC⟩ : ∃ C,bH (dv D ts) = C:=⟨_,rfl⟩;obtain ⟨Q,hQ⟩ : ∃ Q,dv D ts = Q:=⟨_,rfl⟩;rw [hC] at sP ⊢;have Rl : ∀ k (h : k < ts.length) (h2 : k < Q.length),Q[k] = (ts[k].1,canon (aB ts[k].2 * D)):=fun k h h2=>by subst hQ;simp [dv]
 rw [hQ] at sP gS;rw [hn];have Hi:=ah hi;have cM:=ah hz0;have cN:=ah hz1;have cH:=ah hz2;have kS:=ah eP;have uv:=ah sP;have yU:=ah kF;have Hn:=ah hn;have gb:=ah dm;have HD:=ah hD;have Ha:=ah ha.1;have Xv:=ah Rl;have NA:=ah gS;clear hi hz0 hz1 hz2 eP sP kF hn dm hD hC hQ gS pu Am hsm ha hp oJ Rl;have Hb : Hid (Bw w w):=Below.refl _ _;go_enter Tryz.func43,Tryz.ntmps43;go_wp2_with fail;obtain ⟨R,hR⟩ : ∃ R : World -> Prop,(fun W=>ai W (w.heap.size) 57 [.int .i64 (V : Int),.slice a n cap] /\ ai W (w.heap.size + 1) 30 [.bool s,.string (bs m),.int .i64 e] /\ ai W (w.heap.size + 1 + 1) 57 [.int .i64 0,.slice none 0 0] /\ Bw w W) = R:=⟨_,rfl⟩;first | refine bE R ?hR ?_ | refine bC R ?hR ?_
 case hR=>subst hR;exact ⟨(((ai.newAt w _ _ (b:=w.heap.size) rfl).alloc _).alloc _),((ai.newAt (w.alloc _) _ _ (b:=w.heap.size + 1) zm).alloc _),(ai.newAt ((w.alloc _).alloc _) _ _ (b:=w.heap.size + 1 + 1) zm),((zl.alloc zj _).alloc zj _)⟩
 subst hR;rintro W ⟨qp,qc,qr,ae⟩;have Hp:=ah qp;clear qp;have Hc:=ah qc;clear qc;have Hr:=ah qr;clear qr;obtain ⟨p0,p1⟩:=Hp.out.c2;obtain ⟨c0,c1,c2⟩:=Hc.out.c3;obtain ⟨r0,aj,r1,ak⟩:=Hr.out.g2;replace Hb:=au Hb ae;clear ae;go_wp2_with fail;refine (kS.out _ Hb.out).mono ?_;rintro e w1 ⟨rfl,ae⟩;clear p0 p1 c0 c1 c2 r0 aj r1 ak;replace Hp:=kB Hp ae;replace Hc:=kB Hc ae;replace Hr:=kB Hr ae;obtain ⟨p0,p1⟩:=Hp.out.c2;obtain ⟨c0,c1,c2⟩:=Hc.out.c3;obtain ⟨r0,aj,r1,ak⟩:=Hr.out.g2;replace Hb:=au Hb ae;clear ae;have zh:=Hp;have wE:=Hc;have jh:=Hr;have df:=Hb;go_wp2_with fail;go_loopw [7,8] (fun s7 x wr=>∃ (k : Nat) (v : Value),k <= n /\ x = .int .i64 (k : Int) /\ v = s7 /\ wr.ownsRow w1.heap.size 107 4 v k ((Q.take k).flatMap aL) /\ Bw w1 wr) (fun _ x _=>n - (intOf x).toNat);case atStart=>exact ⟨0,_,Nat.zero_le _,rfl,rfl,World.ownsRow_nil _ _ _ _,Below.refl _ _⟩
 case round=>
  clear p0 p1 c0 c1 c2 r0 aj r1 ak Hp Hc Hr Hb;obtain ⟨k,v,hk,rfl,rfl,ho,pb⟩:=hrel;have Hp:=ah (zh.out.below pb);have Hc:=ah (wE.out.below pb);have Hr:=ah (jh.out.below pb);have dK:=aI df.out pb;have yl:=df.out.size;have lc1:=wE.out.lt;have lr1:=jh.out.lt;by_cases hlt : k < n
  . have hk2 : k < ts.length:=by rw [Hn.out];exact hlt
    have SP : k < Q.length:=by rw [NA.out];exact hlt
    obtain ⟨l,s1,q1,e1,hx⟩ : ∃ l s m e,ts[k] = (l,s,m,e):=⟨_,_,_,_,rfl⟩;obtain ⟨b,o,rfl,cn⟩:=(Ha.out.below dK).term k hk2 hx;have lbt : b < w.heap.size:=by obtain ⟨b3,o3,h3,hw3⟩:=Ha.out.term k hk2 hx;simp only [Option.some.injEq,Addr.mk.injEq,and_true] at h3;obtain ⟨rfl,rfl⟩:=h3;exact World.block_lt_of_cell? w _ (hw3.cell 0 zm)
    have bD:=iG n cap k (k : Int) (rfl : (some ⟨b,o,none⟩ : Option Addr) = _) hlt rfl;have iU : gp (s1,q1,e1):=by have:=yU.out _ (List.getElem_mem hk2);rw [hx] at this;exact this
    obtain ⟨X,hX⟩ : ∃ X,aB (s1,q1,e1) * D = X:=⟨_,rfl⟩;have Rm : (Q.take (k + 1)).flatMap aL = (Q.take k).flatMap aL ++ [.string (bs l),.bool (ar (dN X)),.string (bs (nt (dN X).natAbs)),.int .i64 (dE X)]:=by
     rw [List.take_succ_eq_append_getElem SP,List.flatMap_append,Xv.out k hk2 SP,hx];show _ ++ [Value.string (bs l),Value.bool (ar (dN (aB (s1,q1,e1) * D))),_,_] = _
     rw [hX];rfl
    have HX : Hid (aB (s1,q1,e1) * aB (s,m,e) = X):=by show _ = _;rw [HD.out];exact hX
    have Ht : Hid (bo wr b (o + k * 4) [.string (bs l),.bool s1,.string (bs q1),.int .i64 e1]):=cn;have cB:=ah ho;have aQ:=ah pb;have Xw:=ah Rm;have kr:=ah iU;have gV:=pb.size;clear ho pb Rm iU hX hx cn dK;have Hb : Hid (Bw wr wr):=Below.refl _ _;obtain ⟨p0,p1⟩:=Hp.out.c2;obtain ⟨c0,c1,c2⟩:=Hc.out.c3;obtain ⟨t0,t1,t2,t3⟩:=Ht.out.w4;go_wp2_with fail;refine bG (fun w'=>w'.cell? ⟨w.heap.size,1,none⟩ = some (.slice (some ⟨b,o,none⟩) n cap) /\ w'.cell? ⟨w.heap.size + 1,0,none⟩ = some (.bool s) /\ w'.cell? ⟨w.heap.size + 1,1,none⟩ = some (.string (bs m)) /\ w'.cell? ⟨w.heap.size + 1,2,none⟩ = some (.int .i64 e) /\ w'.cell? ⟨b,o + k * 4,none⟩ = some (.string (bs l)) /\ w'.cell? ⟨b,o + k * 4 + 1,none⟩ = some (.bool s1) /\ w'.cell? ⟨b,o + k * 4 + 2,none⟩ = some (.string (bs q1)) /\ w'.cell? ⟨b,o + k * 4 + 3,none⟩ = some (.int .i64 e1)) (fun i=>Nat.blt i 100000) [(0,true),(1,true),(2,true),(3,true),(4,true),(5,true),(6,true),(7,true),(8,true),(9,true),(10,true),(11,true),(12,true),(13,true),(14,false),(15,true),(16,false),(17,false),(18,true)] zk zk rfl zk zc ⟨p1,c0,c1,c2,t0,t1,t2,t3⟩ ?_;iterate 14 (refine pT rfl rfl ?_ (by intro w' ⟨q0,q1,q2,q3,q4,q5,q6,q7⟩;go_simp;try with_reducible rfl);try simp only [UU])
    refine aH rfl rfl (fun K hK=>?_);go_simp;with_reducible refine (aiR s1 q1 e1 s m e X HX.out _ kr.out gb.out).mono ?_
    rintro e w4 ⟨rfl,hq⟩;have ae : Bw wr w4:=by first | exact hq | exact aM hq
    clear p0 p1 c0 c1 c2 t0 t1 t2 t3;replace Hp:=kB Hp ae;replace Hc:=kB Hc ae;replace Ht:=kW Ht ae;obtain ⟨p0,p1⟩:=Hp.out.c2;obtain ⟨c0,c1,c2⟩:=Hc.out.c3;obtain ⟨t0,t1,t2,t3⟩:=Ht.out.w4;replace Hb:=au Hb ae;clear ae;refine hK _ _ (fun _=>⟨p1,c0,c1,c2,t0,t1,t2,t3⟩) ?_;clear hK K;try simp only [UU]
    refine pT rfl rfl ?_;try simp only [UU]
    refine aH rfl rfl (fun K hK=>?_);go_simp;refine hK _ _ (fun _=>⟨aG p1,aG c0,aG c1,aG c2,aG t0,aG t1,aG t2,aG t3⟩) ?_;clear hK K;try simp only [UU]
    refine bJ (fun W5=>ai W5 (w4.heap.size) 107 [.string (bs l),.bool (ar (dN X)),.string (bs (nt (dN X).natAbs)),.int .i64 (dE X)] /\ Bw w4 W5) (by first | exact dQ | exact dR) ?_;rintro W5 ⟨qd,ae⟩;clear p0 p1 c0 c1 c2 t0 t1 t2 t3;have amz:=Hp.out.lt;have al6:=Hc.out.lt;replace Hp:=kB Hp ae;replace Hc:=kB Hc ae;replace Ht:=kW Ht ae;have Hd:=ah qd;clear qd;obtain ⟨p0,p1⟩:=Hp.out.c2;obtain ⟨c0,c1,c2⟩:=Hc.out.c3;obtain ⟨t0,t1,t2,t3⟩:=Ht.out.w4;obtain ⟨d0,d1,d2,d3⟩:=Hd.out.c4;replace Hb:=au Hb ae;clear ae;refine aH rfl rfl (fun K hK=>?_);have dF:=ownsRow_below cB.out Hb.out;have hs3:=Hb.out.size;refine wp_append_own _ _ _ 55 rfl w1.heap.size 107 i0 _ 4 48 Tryz.underlying55 Hi.out cM.out cN.out cH.out rfl zd v k ((Q.take k).flatMap aL) rfl dF ⟨w4.heap.size,0,none⟩ 1 1 [.string (bs l),.bool (ar (dN X)),.string (bs (nt (dN X).natAbs)),.int .i64 (dE X)] rfl rfl (gv Hd.out) zy zx zo zo ?_;intro v' w8 dD aZ _;have nb : ∀ b,b < w1.heap.size -> some b ≠ v.ownBlock:=fun b hb e=>by have:=cP dF b e.symm;omega
    refine hK _ _ (fun _=>⟨bT aZ p1 (nb _ zp),bT aZ c0 (nb _ zp),bT aZ c1 (nb _ zp),bT aZ c2 (nb _ zp),bT aZ t0 (nb _ zp),bT aZ t1 (nb _ zp),bT aZ t2 (nb _ zp),bT aZ t3 (nb _ zp)⟩) ?_;clear hK K;try simp only [UU]
    have fP:=(aI aQ.out Hb.out).grown aZ zo (fun j e=>cP dF j e);rw [<- Xw.out] at dD;have gH:=ah fP;have gu:=ah dD;refine pT rfl rfl ?_;try simp only [UU]
    simp only [aU];clear nb dF dD aZ fP p0 p1 c0 c1 c2 t0 t1 t2 t3 d0 d1 d2 d3;go_wp2;go_roundw;case rel=>exact ⟨k + 1,v',by omega,by go_num,rfl,gu.out,gH.out⟩
    case measure=>simp [intOf];omega
  . obtain rfl : k = n:=by omega
    have htk : Q.take k = Q:=List.take_of_length_le (by rw [NA.out];exact Nat.le_refl _);rw [htk] at ho;obtain ⟨a2,c2,rfl,hat,_⟩:=dG ho;have fN:=ah hat;have Hb : Hid (Bw w wr):=dK;have Yq:=ah (uv.out wr a2 c2 hat);clear ho pb dK htk hat Hc;obtain ⟨p0,p1⟩:=Hp.out.c2;obtain ⟨r0,aj,r1,ak⟩:=Hr.out.g2;go_wp2_with fail;refine (Yq.out).mono ?_;rintro e w6 ⟨a9,d9,rfl,AU,ae⟩;clear p0 p1 r0 aj r1 ak;replace Hp:=kB Hp ae;replace Hr:=kB Hr ae;obtain ⟨p0,p1⟩:=Hp.out.c2;obtain ⟨r0,aj,r1,ak⟩:=Hr.out.g2;replace Hb:=au Hb ae;clear ae;have Zh:=ah AU;clear AU;go_wp2;have h9:=Zh.out.store Hr.out zd (.int .i64 (V : Int)) (.slice a9 C.length d9);refine fO (fun w9=>cm w9 a9 d9 C /\ ai w9 (w.heap.size + 1 + 1) 57 [.int .i64 (V : Int),.slice a9 C.length d9] /\ Bw w w9) ⟨h9,(Hr.out.set 0 _).set 1 _,(Hb.out.setCell zp _).setCell zp _⟩ ?_;rintro w9 ⟨q1,q2,q3⟩;obtain ⟨x0,x1⟩:=q2.c2;exact bodyPost_ret (v:=.tuple #[.agg #[.int .i64 (V : Int),.slice a9 C.length d9],.int .i64 0]) (by simp [results,Tryz.results43,go_sem,x0,x1]) rfl ⟨_,_,rfl,q1,q3⟩
theorem aiN (ts : List aJ) (a a' : Option Addr) (n cap cap' : Nat) (w : World) (hn : ts.length = n) (hl : n <= 65536) (ha : At w a (ts.flatMap aL)) (ha' : At w a' (ts.flatMap aL)) :
 Calls Tryz.prog 64 #[.slice a n cap,.slice a' n cap'] w fun e w'=>e = .returned (.bool true) /\ Bw w w':=by
 have Ha:=ah ha;have oQ:=ah ha';have Hn:=ah hn;clear ha ha' hn;have Hb : Hid (Bw w w):=Below.refl _ _;go_enter Tryz.func64,Tryz.ntmps64;go_wp2_with fail;go_loopw [5] (fun x wr=>∃ k : Nat,k <= n /\ x = .int .i64 (k : Int) /\ Bw w wr) (fun x _=>n - (intOf x).toNat);case atStart=>exact ⟨0,Nat.zero_le _,rfl,Hb.out⟩
 case round=>
  clear Hb;obtain ⟨k,hk,rfl,pb⟩:=hrel;by_cases hlt : k < n
  . have hk2 : k < ts.length:=by rw [Hn.out];exact hlt
    obtain ⟨l,s,m,e,hx⟩ : ∃ l s m e,ts[k] = (l,s,m,e):=⟨_,_,_,_,rfl⟩;obtain ⟨b,o,rfl,cn⟩:=(Ha.out.below pb).term k hk2 hx;obtain ⟨b',o',rfl,pI⟩:=(oQ.out.below pb).term k hk2 hx;have bD:=iG n cap k (k : Int) (rfl : (some ⟨b,o,none⟩ : Option Addr) = _) hlt rfl;have SH:=iG n cap' k (k : Int) (rfl : (some ⟨b',o',none⟩ : Option Addr) = _) hlt rfl;have Hx : Hid (bo wr b (o + k * 4) [.string (bs l),.bool s,.string (bs m),.int .i64 e]):=cn;have Hy : Hid (bo wr b' (o' + k * 4) [.string (bs l),.bool s,.string (bs m),.int .i64 e]):=pI;have aQ:=ah pb;clear pb cn pI hx;have Hb : Hid (Bw wr wr):=Below.refl _ _;obtain ⟨x0,x1,x2,x3⟩:=Hx.out.w4;obtain ⟨y0,y1,y2,y3⟩:=Hy.out.w4;go_wp2_with fail;refine bG (fun w'=>w'.cell? ⟨b,o + k * 4,none⟩ = some (.string (bs l)) /\ w'.cell? ⟨b,o + k * 4 + 1,none⟩ = some (.bool s) /\ w'.cell? ⟨b,o + k * 4 + 2,none⟩ = some (.string (bs m)) /\ w'.cell? ⟨b,o + k * 4 + 3,none⟩ = some (.int .i64 e) /\ w'.cell? ⟨b',o' + k * 4,none⟩ = some (.string (bs l)) /\ w'.cell? ⟨b',o' + k * 4 + 1,none⟩ = some (.bool s) /\ w'.cell? ⟨b',o' + k * 4 + 2,none⟩ = some (.string (bs m)) /\ w'.cell? ⟨b',o' + k * 4 + 3,none⟩ = some (.int .i64 e)) (fun i=>Nat.blt i 100000) [(0,true),(1,true),(2,true),(3,true),(4,true),(5,true),(6,true),(7,true),(8,true)] zk zk rfl zk zc ⟨x0,x1,x2,x3,y0,y1,y2,y3⟩ ?_;iterate 9 (refine pT rfl rfl ?_ (by intro w' ⟨q0,q1,q2,q3,q4,q5,q6,q7⟩;go_simp;try with_reducible rfl);try simp only [UU])
    simp only [aU];go_wp2;go_roundw;case rel=>exact ⟨k + 1,by omega,by go_num,aQ.out.drew⟩
    case measure=>simp [intOf];omega
  . obtain rfl : k = n:=by omega
    have aQ:=ah pb;go_wp2;refine bodyPost_ret (results_tmp rfl _ _ _) rfl ⟨rfl,aQ.out⟩
theorem aiG (V : Int) (ts : List aJ) (a a' : Option Addr) (cap cap' : Nat) (w : World) (hl : ts.length <= 65536) (ha : At w a (ts.flatMap aL)) (ha' : At w a' (ts.flatMap aL)) :
 Calls Tryz.prog 25 #[.agg #[.int .i64 V,.slice a ts.length cap],.agg #[.int .i64 V,.slice a' ts.length cap']] w fun e w'=>e = .returned (.bool true) /\ Bw w w':=by
 obtain ⟨n,hn⟩ : ∃ n,ts.length = n:=⟨_,rfl⟩;have h1:=fun W (hW : Bw w W)=>aiN ts a a' n cap cap' W hn zo (ha.below hW) (ha'.below hW);rw [hn];have H1:=ah h1;clear h1 ha ha' hn hl;have Hb : Hid (Bw w w):=Below.refl _ _;go_enter Tryz.func25,Tryz.ntmps25;go_wp2_with fail;obtain ⟨R,hR⟩ : ∃ R : World -> Prop,(fun W=>ai W (w.heap.size) 57 [.int .i64 V,.slice a n cap] /\ ai W (w.heap.size + 1) 57 [.int .i64 V,.slice a' n cap'] /\ Bw w W) = R:=⟨_,rfl⟩;first | refine bE R ?hR ?_ | refine bC R ?hR ?_
 case hR=>subst hR;exact ⟨((ai.newAt w _ _ (b:=w.heap.size) rfl).alloc _),(ai.newAt (w.alloc _) _ _ (b:=w.heap.size + 1) zm),(zl.alloc zj _)⟩
 subst hR;rintro W ⟨qp,qq,ae⟩;have Hp:=ah qp;clear qp;have Hq:=ah qq;clear qq;obtain ⟨p0,p1⟩:=Hp.out.c2;obtain ⟨q0,q1⟩:=Hq.out.c2;replace Hb:=au Hb ae;clear ae;go_wp2_with fail;refine (H1.out _ Hb.out).mono ?_;rintro e w1 ⟨rfl,ae⟩;clear p0 p1 q0 q1;replace Hp:=kB Hp ae;replace Hq:=kB Hq ae;obtain ⟨p0,p1⟩:=Hp.out.c2;obtain ⟨q0,q1⟩:=Hq.out.c2;replace Hb:=au Hb ae;clear ae;go_wp2;go_ret;exact ⟨rfl,Hb.out⟩
end Go.Proofs.YtdaadlblknpipaaGreatDoor
