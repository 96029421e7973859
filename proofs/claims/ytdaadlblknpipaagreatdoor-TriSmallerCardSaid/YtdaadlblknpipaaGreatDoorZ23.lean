/- Package ogeeref08: Var,Check of what may be,Scale,Terms,Same. -/
import Derived.Test.YtdaadlblknpipaaGreatDoorZ20
import Derived.Test.YtdaadlblknpipaaGreatDoorZ22
set_option linter.unusedVariables false
set_option linter.unusedSimpArgs false
set_option maxRecDepth 100000
set_option maxHeartbeats 16000000
namespace Go.Proofs.YtdaadlblknpipaaGreatDoor
open Go.RowKit
attribute [local go_sem ↓] Go.wp_at_zero Go.wp_at_succ
theorem ai8 (V k : Nat) (w : World) (hV : V <= 12) (hk : k < V) :
 Calls Tryz.prog 42 #[.int .i64 (V : Int),.int .i64 (k : Int)] w fun ex w'=>∃ a' c',ex = .returned (.tuple #[.agg #[.int .i64 (V : Int),.slice a' (bC [(cN V k,canon 1)]).length c'],.int .i64 0]) /\ cd w' a' c' (bC [(cN V k,canon 1)]) /\ Bw w w':=by
 obtain ⟨C,hC⟩ : ∃ C,bC [(cN V k,canon 1)] = C:=⟨_,rfl⟩;rw [hC];obtain ⟨O,hO⟩ : ∃ O : Dyadic,(1 : Dyadic) = O:=⟨_,rfl⟩;have hmk:=fun W b (hb : ai W b 107 [.string (bs (cN V k)),.bool (au (dN O)),.string (bs (nt (dN O).natAbs)),.int .i64 (dE O)])=>VY V (some ⟨b,0,none⟩) 1 1 [(cN V k,canon 1)] 1 W rfl zo (by rw [hO];exact At.anV hb) (by intro t ht;simp at ht;subst ht;exact Sm.anY Sm.one zd) (by intro t ht;simp at ht;subst ht;show Sm 1 (aC (canon 1));rw [bP];exact Sm.one) zo;rw [hC] at hmk;have hof : ∀ W,Calls Tryz.prog 62 #[.int .i64 1] W fun e w'=>e = .returned (bJ O) /\ Bw W w':=fun W=>aiN 1 O hO W zd;have hmb:=fun W=>pV (V : Int) V rfl zo W;have hcv : ∀ W b,Hid (ai W b 5 (bZ V fun j=>if j = k then 1 else 0)) -> (convert 111 9 (.slice (some ⟨b,0,none⟩) V V)).run Tryz.prog W = .ok (.string (bs (cN V k))) W:=fun W b h=>by rw [<- WO V k];exact wB h.out V
 have bz:=fun b=>tM V V k (k : Int) (rfl : (some ⟨b,0,none⟩ : Option Addr) = _) hk rfl;simp only [Nat.zero_add,Nat.mul_one] at bz;have hget : (bZ V fun _=>0)[k]? = some (.int .u8 0):=jD _ _ _ hk;have jw : (bZ V fun _=>0).set k (.int .u8 1) = bZ V fun j=>if j = k then 1 else 0:=wD V _ k 1
 have qR:=ah hmk;have pg:=ah hof;clear hmk hof hC hO;have AO : ¬ (k : Int) < 0:=by omega
 have hVi : ¬ (V : Int) < 0:=by omega
 have hV2 : ¬ (12 : Int) < (V : Int):=by omega
 have hkV : ¬ (V : Int) <= (k : Int):=by omega
 obtain ⟨W,aL⟩ : ∃ W,(w.alloc (.cells #[.int .i64 0,.slice none 0 0] 57)) = W:=⟨_,rfl⟩;have Hb : Hid (Bw w W):=by rw [<- aL];exact zl
 have Hr : Hid (ai W (w.heap.size) 57 [.int .i64 0,.slice none 0 0]):=by rw [<- aL];exact ai.newAt _ _ _ zm
 obtain ⟨r0,aj,r1,ar⟩:=Hr.out.g2;go_enter Tryz.func42,Tryz.ntmps42;go_wp2_with fail;have hrl:=Hr.out.lt;obtain ⟨R,hR⟩ : ∃ R : World -> Prop,(fun W3=>ai W3 W.heap.size 5 (bZ V fun j=>if j = k then 1 else 0) /\ Bw W W3) = R:=⟨_,rfl⟩;first | refine bB R ?hR ?_ | refine bA R ?hR ?_
 case hR=>subst hR;exact ⟨ai.newAt W _ _ (b:=W.heap.size) rfl,zl⟩
 subst hR;intro W3 ⟨qm,ae⟩;clear r0 aj r1 ar;replace Hr:=kB Hr ae;obtain ⟨r0,aj,r1,ar⟩:=Hr.out.g2;replace Hb:=ah (aJ Hb.out ae);have Hm:=ah qm;clear qm ae hget jw bz hmb;have qH : ∀ w',ic W3 w' -> (convert 111 9 (.slice (some ⟨W.heap.size,0,none⟩) V V)).run Tryz.prog w' = .ok (.string (bs (cN V k))) w':=fun w' h=>hcv w' _ (ah (Hm.out.below h));have bF : Hid (ic W3 W3):=Below.refl _ _;refine bE (fun w'=>ic W3 w') (fun i=>Nat.blt i 9) [(0,true),(1,true),(2,true),(3,false),(4,true),(5,false),(6,false),(7,true),(8,true),(9,false),(10,false)] zk zk rfl zk zc bF.out.drew ?_;iterate 3 (refine LS rfl rfl (v:=?_) (fun w' hw'=>?_) ?_;rotate_left;(focus have hw':=qH w' hw';go_simp;try with_reducible rfl);try simp only [UU])
 refine aI rfl rfl (fun K hK=>?_);go_simp;with_reducible refine (pg.out _).mono ?_
 rintro e w4 ⟨rfl,hq⟩;have ae : Bw W3 w4:=by first | exact hq | exact aN hq
 clear r0 aj r1 ar;replace bF:=ah (bF.out.below ae);replace Hr:=kB Hr ae;obtain ⟨r0,aj,r1,ar⟩:=Hr.out.g2;replace Hb:=az Hb ae;clear ae;refine hK _ _ (fun _=>bF.out) ?_;clear hK K;try simp only [UU]
 refine pT rfl rfl ?_;try simp only [UU]
 refine aI rfl rfl (fun K hK=>?_);go_simp;refine hK _ _ (fun _=>by first | exact bF.out.alloc _ | exact (bF.out.alloc _).drew | exact (bF.out.drew).alloc _) ?_;clear hK K;try simp only [UU]
 refine bG (fun W5=>ai W5 (w4.heap.size) 107 [.string (bs (cN V k)),.bool (au (dN O)),.string (bs (nt (dN O).natAbs)),.int .i64 (dE O)] /\ Bw w4 W5) (by first | exact dP | exact dQ) ?_;rintro W5 ⟨qz,ae⟩;clear r0 aj r1 ar;have EW:=Hr.out.lt;replace bF:=ah (bF.out.below ae);replace Hr:=kB Hr ae;have Hz:=ah qz;clear qz;obtain ⟨r0,aj,r1,ar⟩:=Hr.out.g2;obtain ⟨z0,z1,z2,z3⟩:=Hz.out.c4;replace Hb:=az Hb ae;clear ae;refine aI rfl rfl (fun K hK=>?_);go_simp;with_reducible refine (qR.out _ _ Hz.out).mono ?_
 rintro e w6 ⟨a2,d2,rfl,dU,hq⟩;have ae : Bw W5 w6:=by first | exact hq | exact aN hq
 clear r0 aj r1 ar z0 z1 z2 z3;replace bF:=ah (bF.out.below ae);replace Hr:=kB Hr ae;replace Hz:=kB Hz ae;obtain ⟨r0,aj,r1,ar⟩:=Hr.out.g2;obtain ⟨z0,z1,z2,z3⟩:=Hz.out.c4;replace Hb:=az Hb ae;clear ae;refine hK _ _ (fun _=>bF.out) ?_;clear hK K;try simp only [UU]
 iterate 2 (refine pT rfl rfl ?_;try simp only [UU])
 refine aI rfl rfl (fun K hK=>?_);go_simp;refine hK _ _ (by first | exact fun h=>absurd h zd | exact fun _=>bF.out | exact fun _=>eV zg bF.out) ?_;clear hK K;try simp only [UU]
 refine aI rfl rfl (fun K hK=>?_);go_simp;refine hK _ _ (fun h=>absurd h zd) ?_;clear hK K;try simp only [UU]
 simp only [aV];go_wp2;have h9:=dU.store Hr.out zd (.int .i64 (V : Int)) (.slice a2 C.length d2);refine gq (fun w9=>cd w9 a2 d2 C /\ ai w9 w.heap.size 57 [.int .i64 (V : Int),.slice a2 C.length d2] /\ Bw w w9) ⟨h9,(Hr.out.set 0 _).set 1 _,(Hb.out.setCell (Nat.le_refl _) _).setCell (Nat.le_refl _) _⟩ ?_;rintro w9 ⟨q1,q2,q3⟩;obtain ⟨p0,p1⟩:=q2.c2;exact bodyPost_ret (v:=.tuple #[.agg #[.int .i64 (V : Int),.slice a2 C.length d2],.int .i64 0]) (by simp [results,Tryz.results42,go_sem,p0,p1]) rfl ⟨_,_,rfl,q1,q3⟩
theorem ahY {V : Nat} {ts : List aK} (h : zS V ts) (k : Nat) (hk : k < ts.length) : fA ts[k].1 V = true /\ aC ts[k].2 ≠ 0 /\ ts[k].2 = canon (aC ts[k].2) /\ (0 < k -> Op.bytesLess (ts[k - 1]'zo).1 ts[k].1 = true):=by obtain ⟨⟨h1,h2⟩,h3,h4,h5⟩:=h;have hm:=List.getElem_mem hk;exact ⟨h3 _ hm,(h2 _ hm).1,(h2 _ hm).2,fun h0=>List.pairwise_iff_getElem.1 h1 (k - 1) k zo hk zo⟩
theorem aiP (V : Nat) (a : Option Addr) (cap N : Nat) (ts : List aK) (w : World) (hN : ts.length = N) (ha : At w a (ts.flatMap aM)) (hp : zS V ts) (hf : ∀ t ∈ ts,gj t.2) :
 Calls Tryz.prog 82 #[.agg #[.int .i64 (V : Int),.slice a N cap]] w fun e w'=>e = .returned (.int .i64 0) /\ Bw w w':=by
 have hn : N <= 4096:=by rw [<- hN];exact hp.2.2.1
 have hV : V <= 12:=hp.2.2.2;have hg:=fun k hk=>ahY hp k hk;have Ha:=ah ha;have Hg:=ah hg;have HN:=ah hN;have Hf:=ah hf;clear ha hg hN hf hp;have hVi : ¬ (V : Int) < 0:=by omega
 have hV2 : ¬ (12 : Int) < (V : Int):=by omega
 have bY : ¬ (4096 : Int) < (N : Int):=by omega
 have al2 : decide ((4096 : Int) < (N : Int)) = false:=by simp;omega
 obtain ⟨W,aL⟩ : ∃ W,(w.alloc (.cells #[.int .i64 (V : Int),.slice a N cap] 57)) = W:=⟨_,rfl⟩;have Hb : Hid (Bw w W):=by rw [<- aL];exact zl
 have Hp : Hid (ai W (w.heap.size) 57 [.int .i64 (V : Int),.slice a N cap]):=by rw [<- aL];exact ai.newAt _ _ _ zm
 obtain ⟨p0,p1⟩:=Hp.out.c2;go_enter Tryz.func82,Tryz.ntmps82;go_wp2_with fail;go_loopw [3] (fun x wr=>∃ k : Nat,k <= N /\ x = .int .i64 (k : Int) /\ ai wr w.heap.size 57 [.int .i64 (V : Int),.slice a N cap] /\ Bw w wr) (fun x _=>N - (intOf x).toNat);case atStart=>exact ⟨0,Nat.zero_le _,rfl,Hp.out,Hb.out⟩
 case round=>
  clear p0 p1 Hp Hb;obtain ⟨k,hk,rfl,gT,pb⟩:=hrel;by_cases hlt : k < N
  . have hk2 : k < ts.length:=by rw [HN.out];exact hlt
    obtain ⟨l,s,m,e,hx⟩ : ∃ l s m e,ts[k] = (l,s,m,e):=⟨_,_,_,_,rfl⟩;obtain ⟨b,o,hab,cj⟩:=(Ha.out.below pb).term k hk2 hx;obtain ⟨g1,g2,g3,g4⟩:=Hg.out k hk2;have dO : gj (s,m,e):=by have:=Hf.out _ (List.getElem_mem hk2);rw [hx] at this;exact this
    have hfl : m.length <= 16384:=dO.1;rw [hx] at g1 g2 g3;simp only [hx] at g4;obtain ⟨X,hX⟩ : ∃ X,aC (s,m,e) = X:=⟨_,rfl⟩;obtain ⟨sg,gJ⟩ : ∃ sg,bM X = sg:=⟨_,rfl⟩;have hs1 : (sg == 0) = false:=by rw [<- gJ,uW,<- hX];exact g2
    have hne:=LH X s m e false (by rw [<- hX];simpa using g3.symm);have oG:=fun W=>aiK l (V : Int) W (by have hll : l.length = V:=Va g1;omega);rw [g1] at oG;have bz:=iH N cap k (k : Int) hab hlt rfl;have TN:=fun W=>Fu s m e sg (by rw [hX];exact gJ) W zo;have hfo:=fun W=>yx s m e X hX W dO;have qQ:=ah oG;have ZV:=ah TN;have Yz:=ah hfo;have aR:=ah pb;have jF:=ah hab;have Hp:=ah gT;have kv : Hid (bj wr b (o + k * 4) [.string (bs l),.bool s,.string (bs m),.int .i64 e]):=cj;have sz:=pb.size;clear oG TN hfo pb gT cj hX gJ g1 g2 g3 dO hab;have Hb : Hid (Bw wr wr):=Below.refl _ _;obtain ⟨p0,p1⟩:=Hp.out.c2;obtain ⟨rU,rV,rW,rX⟩:=kv.out.w4;have P0:=rU;have P1:=rV;have P2:=rW;have P3:=rX;have Q1:=p1;have agD:=Hp.out.lt;obtain ⟨W4,eP⟩ : ∃ W4,(wr.alloc (.cells #[.string (bs l),.bool s,.string (bs m),.int .i64 e] 107)) = W4:=⟨_,rfl⟩;have ae : Bw wr W4:=by rw [<- eP];exact zl
    clear p0 p1;replace Hp:=kB Hp ae;clear rU rV rW rX;replace kv:=kW kv ae;have Ht : Hid (ai W4 (wr.heap.size) 107 [.string (bs l),.bool s,.string (bs m),.int .i64 e]):=by rw [<- eP];exact ai.newAt _ _ _ zm
    obtain ⟨p0,p1⟩:=Hp.out.c2;obtain ⟨rU,rV,rW,rX⟩:=kv.out.w4;obtain ⟨t0,t1,t2,t3⟩:=Ht.out.c4;replace Hb:=az Hb ae;clear ae;go_wp2_with fail;clear P0 P1 P2 P3 Q1 rU rV rW rX kv;refine bE (fun w'=>w'.cell? ⟨w.heap.size,0,none⟩ = some (.int .i64 (V : Int)) /\ w'.cell? ⟨w.heap.size,1,none⟩ = some (.slice a N cap) /\ w'.cell? ⟨wr.heap.size,0,none⟩ = some (.string (bs l)) /\ w'.cell? ⟨wr.heap.size,1,none⟩ = some (.bool s) /\ w'.cell? ⟨wr.heap.size,2,none⟩ = some (.string (bs m)) /\ w'.cell? ⟨wr.heap.size,3,none⟩ = some (.int .i64 e)) (fun i=>Nat.blt i 100000) [(0,true),(1,true),(2,true),(3,true),(4,false),(5,true),(6,true),(7,true),(8,true),(9,false),(10,true),(11,true),(12,true),(13,true),(14,true),(16,true),(17,true),(15,false),(18,true),(19,true)] zk zk rfl zk zc ⟨p0,p1,t0,t1,t2,t3⟩ ?_;iterate 4 (refine pT rfl rfl ?_ (by intro w' ⟨q0,q1,q2,q3,q4,q5⟩;go_simp;try with_reducible rfl);try simp only [UU])
    refine aI rfl rfl (fun K hK=>?_);go_simp;with_reducible refine (qQ.out _).mono ?_
    rintro e w5 ⟨rfl,hq⟩;have ae : Bw W4 w5:=by first | exact hq | exact aN hq
    clear p0 p1 t0 t1 t2 t3;replace Hp:=kB Hp ae;replace Ht:=kB Ht ae;obtain ⟨p0,p1⟩:=Hp.out.c2;obtain ⟨t0,t1,t2,t3⟩:=Ht.out.c4;replace Hb:=az Hb ae;clear ae;refine hK _ _ (fun _=>⟨p0,p1,t0,t1,t2,t3⟩) ?_;clear hK K;try simp only [UU]
    iterate 4 (refine pT rfl rfl ?_ (by intro w' ⟨q0,q1,q2,q3,q4,q5⟩;go_simp;try with_reducible rfl);try simp only [UU])
    refine aI rfl rfl (fun K hK=>?_);go_simp;with_reducible refine (ZV.out _).mono ?_
    rintro e w6 ⟨rfl,hq⟩;have ae : Bw w5 w6:=by first | exact hq | exact aN hq
    clear p0 p1 t0 t1 t2 t3;replace Hp:=kB Hp ae;replace Ht:=kB Ht ae;obtain ⟨p0,p1⟩:=Hp.out.c2;obtain ⟨t0,t1,t2,t3⟩:=Ht.out.c4;replace Hb:=az Hb ae;clear ae;refine hK _ _ (fun _=>⟨p0,p1,t0,t1,t2,t3⟩) ?_;clear hK K;try simp only [UU]
    iterate 7 (refine pT rfl rfl ?_ (by intro w' ⟨q0,q1,q2,q3,q4,q5⟩;go_simp;try with_reducible rfl);try simp only [UU])
    refine aI rfl rfl (fun K hK=>?_);go_simp;with_reducible refine (Yz.out _).mono ?_
    rintro e w7 ⟨rfl,hq⟩;have ae : Bw w6 w7:=by first | exact hq | exact aN hq
    clear p0 p1 t0 t1 t2 t3;replace Hp:=kB Hp ae;replace Ht:=kB Ht ae;obtain ⟨p0,p1⟩:=Hp.out.c2;obtain ⟨t0,t1,t2,t3⟩:=Ht.out.c4;replace Hb:=az Hb ae;clear ae;refine hK _ _ (fun _=>⟨p0,p1,t0,t1,t2,t3⟩) ?_;clear hK K;try simp only [UU]
    iterate 2 (refine pT rfl rfl ?_;try simp only [UU])
    simp only [aV];by_cases jv : k = 0
    . have hk1 : decide (0 < k) = false:=by simp;omega
      have aeV : decide ((0 : Int) < (k : Int)) = false:=by simp;omega
      clear jv g4;go_wp2_with fail;refine bE (fun w'=>w'.cell? ⟨w.heap.size,0,none⟩ = some (.int .i64 (V : Int)) /\ w'.cell? ⟨w.heap.size,1,none⟩ = some (.slice a N cap) /\ w'.cell? ⟨wr.heap.size,0,none⟩ = some (.string (bs l)) /\ w'.cell? ⟨wr.heap.size,1,none⟩ = some (.bool s) /\ w'.cell? ⟨wr.heap.size,2,none⟩ = some (.string (bs m)) /\ w'.cell? ⟨wr.heap.size,3,none⟩ = some (.int .i64 e)) (fun i=>Nat.blt i 100000) [(0,true),(1,true),(2,true),(3,true),(4,true),(5,true),(6,true),(7,true),(8,true),(9,true),(10,true),(11,true),(12,true),(13,true)] zk zk rfl zk zc ⟨p0,p1,t0,t1,t2,t3⟩ ?_;iterate 3 (refine pT rfl rfl ?_;try simp only [UU])
      refine aX rfl rfl ?_;try simp only [UU]
      refine aX rfl rfl ?_;try simp only [UU]
      refine aX rfl rfl ?_;try simp only [UU]
      refine aX rfl rfl ?_;try simp only [UU]
      refine aX rfl rfl ?_;try simp only [UU]
      refine aX rfl rfl ?_;try simp only [UU]
      refine aX rfl rfl ?_;try simp only [UU]
      refine aX rfl rfl ?_;try simp only [UU]
      refine aX rfl rfl ?_;try simp only [UU]
      refine aX rfl rfl ?_;try simp only [UU]
      refine pT rfl rfl ?_;try simp only [UU]
      simp only [aV];go_wp2;go_roundw;case rel=>exact ⟨k + 1,by omega,by go_num,Hp.out,(aJ aR.out Hb.out).drew⟩
      case measure=>simp [intOf];omega
    . have pK:=g4 zo;have lD : k - 1 < ts.length:=by omega
      obtain ⟨l',s',m',e',hx'⟩ : ∃ l s m e,ts[k - 1] = (l,s,m,e):=⟨_,_,_,_,rfl⟩;obtain ⟨b',o',pI,pQ⟩:=(Ha.out.below (aJ aR.out Hb.out)).term (k - 1) lD hx';have hab:=jF.out;rw [hab] at pI;simp only [Option.some.injEq,Addr.mk.injEq,and_true] at pI;obtain ⟨rfl,rfl⟩:=pI;rw [hx'] at pK;have jQ : Op.bytesLess (bs l').toList (bs l).toList = true:=by rw [fx,fx];exact pK
      have hge : Op.bytesLess (bs l).toList (bs l').toList = false:=by
       rw [fx,fx];cases hc : Op.bytesLess l l' with
       | false=>rfl
       | true=>have:=zW pK hc;rw [xb] at this;cases this
      have aeV : decide ((0 : Int) < (k : Int)) = true:=by simp;omega
      have hk1 : decide (0 < k) = true:=by simp;omega
      have Kr : IntKind.i64.wrap ((k : Int) - 1) = ((k - 1 : Nat) : Int):=by rw [IntKind.wrap_i64];omega
      have Km:=iH N cap (k - 1) ((k - 1 : Nat) : Int) hab zo rfl;obtain ⟨kp,xK⟩ : ∃ kp,k - 1 = kp:=⟨_,rfl⟩;rw [xK] at Km Kr pQ;have aeX : kp < N:=by omega
      have dm : Hid (bj w7 b (o + kp * 4) [.string (bs l'),.bool s',.string (bs m'),.int .i64 e']):=pQ;clear pQ jv hx' xK hab pK g4 lD;obtain ⟨p0,p1⟩:=Hp.out.c2;obtain ⟨t0,t1,t2,t3⟩:=Ht.out.c4;have gB : w7.cell? ⟨b,o + kp * 4,none⟩ = some (.string (bs l')):=dm.out.cell 0 zm;go_wp2_with fail;refine bE (fun w'=>w'.cell? ⟨w.heap.size,0,none⟩ = some (.int .i64 (V : Int)) /\ w'.cell? ⟨w.heap.size,1,none⟩ = some (.slice a N cap) /\ w'.cell? ⟨wr.heap.size,0,none⟩ = some (.string (bs l)) /\ w'.cell? ⟨b,o + kp * 4,none⟩ = some (.string (bs l'))) (fun i=>Nat.blt i 100000) [(0,true),(1,true),(2,true),(3,true),(4,true),(5,true),(6,true),(7,true),(8,true),(9,true),(10,true),(11,true),(12,true),(13,true)] zk zk rfl zk zc ⟨p0,p1,t0,gB⟩ ?_;iterate 14 (refine pT rfl rfl ?_ (by intro w' ⟨q0,q1,q2,q3⟩;go_simp;try with_reducible rfl);try simp only [UU])
      simp only [aV];go_wp2;go_roundw;case rel=>exact ⟨k + 1,by omega,by go_num,Hp.out,(aJ aR.out Hb.out).drew⟩
      case measure=>simp [intOf];omega
  . obtain rfl : k = N:=by omega
    have Hp:=ah gT;have aR:=ah pb;obtain ⟨p0,p1⟩:=Hp.out.c2;go_wp2;refine bodyPost_ret (results_tmp rfl _ _ _) rfl ⟨rfl,aR.out⟩
theorem aiX (V : Nat) (a : Option Addr) (cap : Nat) (ts : List aK) (s : Bool) (m : List UInt8) (e : Int) (D : Dyadic) (B : Nat) (w : World) (hp : iN V B ts) (ha : cd w a cap ts) (dO : gj (s,m,e)) (xP : Sm B (aC (s,m,e))) (hB : 2 * B + 4096 <= 16384) (hD : aC (s,m,e) = D) :
 Calls Tryz.prog 43 #[.agg #[.int .i64 (V : Int),.slice a ts.length cap],.agg #[.bool s,.string (bs m),.int .i64 e]] w fun ex w'=>∃ a' c',ex = .returned (.tuple #[.agg #[.int .i64 (V : Int),.slice a' (bC (dt D ts)).length c'],.int .i64 0]) /\ cd w' a' c' (bC (dt D ts)) /\ Bw w w':=by
 obtain ⟨i0,hi,hz0,hz1,hz2⟩:=info_parts Tryz.an0;obtain ⟨n,hn⟩ : ∃ n,ts.length = n:=⟨_,rfl⟩;have hnl : n <= 4096:=by have:=hp.1.2.2.1;omega
 have gS : (dt D ts).length = n:=by unfold dt;rw [List.length_map,hn]
 have hsm : ∀ t ∈ ts,Sm B (aC t.2):=fun t ht=>(hp.2 t ht).2;have kF : ∀ t ∈ ts,gj t.2:=fun t ht=>by rw [(hp.1.1.2 t ht).2];exact (hsm t ht).anY zo
 rw [hD] at xP;have pH : ∀ t ∈ dt D ts,Sm (2 * B) (aC t.2):=by
  intro t ht;unfold dt at ht;obtain ⟨x,hx,rfl⟩:=List.mem_map.1 ht;show Sm _ (aC (canon _))
  rw [bP];exact (Sm.mul (hsm x hx) xP).mono zo
 have Au : ∀ t ∈ dt D ts,gj t.2:=by
  intro t ht;have h1:=pH t ht;unfold dt at ht;obtain ⟨x,hx,rfl⟩:=List.mem_map.1 ht;have h2 : Sm (2 * B) (aC x.2 * D):=by have h3 : aC (canon (aC x.2 * D)) = aC x.2 * D:=bP _;rw [<- h3];exact h1
  exact h2.anY zo
 have fc:=fun W (hW : Bw w W)=>aiP V a cap n ts W hn (ha.1.below hW) hp.1 kF;have tj:=fun W a' c' (h : At W a' ((dt D ts).flatMap aM))=>VY V a' n c' (dt D ts) (2 * B) W gS hnl h Au pH zo;obtain ⟨C,hC⟩ : ∃ C,bC (dt D ts) = C:=⟨_,rfl⟩;obtain ⟨Q,hQ⟩ : ∃ Q,dt D ts = Q:=⟨_,rfl⟩;rw [hC] at tj ⊢;have Rl : ∀ k (h : k < ts.length) (h2 : k < Q.length),Q[k] = (ts[k].1,canon (aC ts[k].2 * D)):=fun k h h2=>by subst hQ;simp [dt]
 rw [hQ] at tj gS;rw [hn];have Hi:=ah hi;have cO:=ah hz0;have cP:=ah hz1;have cE:=ah hz2;have mC:=ah fc;have uD:=ah tj;have zw:=ah kF;have Hn:=ah hn;have gG:=ah dO;have HD:=ah hD;have Ha:=ah ha.1;have XF:=ah Rl;have Nz:=ah gS;clear hi hz0 hz1 hz2 fc tj kF hn dO hD hC hQ gS pH Au hsm ha hp xP Rl;have Hb : Hid (Bw w w):=Below.refl _ _;go_enter Tryz.func43,Tryz.ntmps43;go_wp2_with fail;obtain ⟨R,hR⟩ : ∃ R : World -> Prop,(fun W=>ai W (w.heap.size) 57 [.int .i64 (V : Int),.slice a n cap] /\ ai W (w.heap.size + 1) 30 [.bool s,.string (bs m),.int .i64 e] /\ ai W (w.heap.size + 1 + 1) 57 [.int .i64 0,.slice none 0 0] /\ Bw w W) = R:=⟨_,rfl⟩;first | refine bB R ?hR ?_ | refine bA R ?hR ?_
 case hR=>subst hR;exact ⟨(((ai.newAt w _ _ (b:=w.heap.size) rfl).alloc _).alloc _),((ai.newAt (w.alloc _) _ _ (b:=w.heap.size + 1) zm).alloc _),(ai.newAt ((w.alloc _).alloc _) _ _ (b:=w.heap.size + 1 + 1) zm),((zl.alloc zj _).alloc zj _)⟩
 subst hR;rintro W ⟨qp,qc,qr,ae⟩;have Hp:=ah qp;clear qp;have Hc:=ah qc;clear qc;have Hr:=ah qr;clear qr;obtain ⟨p0,p1⟩:=Hp.out.c2;obtain ⟨c0,c1,c2⟩:=Hc.out.c3;obtain ⟨r0,aj,r1,ar⟩:=Hr.out.g2;replace Hb:=az Hb ae;clear ae;go_wp2_with fail;refine (mC.out _ Hb.out).mono ?_;rintro e w1 ⟨rfl,ae⟩;clear p0 p1 c0 c1 c2 r0 aj r1 ar;replace Hp:=kB Hp ae;replace Hc:=kB Hc ae;replace Hr:=kB Hr ae;obtain ⟨p0,p1⟩:=Hp.out.c2;obtain ⟨c0,c1,c2⟩:=Hc.out.c3;obtain ⟨r0,aj,r1,ar⟩:=Hr.out.g2;replace Hb:=az Hb ae;clear ae;have zH:=Hp;have wK:=Hc;have ji:=Hr;have df:=Hb;go_wp2_with fail;go_loopw [7,8] (fun s7 x wr=>∃ (k : Nat) (v : Value),k <= n /\ x = .int .i64 (k : Int) /\ v = s7 /\ wr.ownsRow w1.heap.size 107 4 v k ((Q.take k).flatMap aM) /\ Bw w1 wr) (fun _ x _=>n - (intOf x).toNat);case atStart=>exact ⟨0,_,Nat.zero_le _,rfl,rfl,World.ownsRow_nil _ _ _ _,Below.refl _ _⟩
 case round=>
  clear p0 p1 c0 c1 c2 r0 aj r1 ar Hp Hc Hr Hb;obtain ⟨k,v,hk,rfl,rfl,ho,pb⟩:=hrel;have Hp:=ah (zH.out.below pb);have Hc:=ah (wK.out.below pb);have Hr:=ah (ji.out.below pb);have dM:=aJ df.out pb;have yz:=df.out.size;have lc1:=wK.out.lt;have lr1:=ji.out.lt;by_cases hlt : k < n
  . have hk2 : k < ts.length:=by rw [Hn.out];exact hlt
    have SS : k < Q.length:=by rw [Nz.out];exact hlt
    obtain ⟨l,s1,q1,e1,hx⟩ : ∃ l s m e,ts[k] = (l,s,m,e):=⟨_,_,_,_,rfl⟩;obtain ⟨b,o,rfl,cj⟩:=(Ha.out.below dM).term k hk2 hx;have lbt : b < w.heap.size:=by obtain ⟨b3,o3,h3,hw3⟩:=Ha.out.term k hk2 hx;simp only [Option.some.injEq,Addr.mk.injEq,and_true] at h3;obtain ⟨rfl,rfl⟩:=h3;exact World.block_lt_of_cell? w _ (hw3.cell 0 zm)
    have bz:=iH n cap k (k : Int) (rfl : (some ⟨b,o,none⟩ : Option Addr) = _) hlt rfl;have iV : gj (s1,q1,e1):=by have:=zw.out _ (List.getElem_mem hk2);rw [hx] at this;exact this
    obtain ⟨X,hX⟩ : ∃ X,aC (s1,q1,e1) * D = X:=⟨_,rfl⟩;have Rm : (Q.take (k + 1)).flatMap aM = (Q.take k).flatMap aM ++ [.string (bs l),.bool (au (dN X)),.string (bs (nt (dN X).natAbs)),.int .i64 (dE X)]:=by
     rw [List.take_succ_eq_append_getElem SS,List.flatMap_append,XF.out k hk2 SS,hx];show _ ++ [Value.string (bs l),Value.bool (au (dN (aC (s1,q1,e1) * D))),_,_] = _
     rw [hX];rfl
    have HX : Hid (aC (s1,q1,e1) * aC (s,m,e) = X):=by show _ = _;rw [HD.out];exact hX
    have Ht : Hid (bj wr b (o + k * 4) [.string (bs l),.bool s1,.string (bs q1),.int .i64 e1]):=cj;have cw:=ah ho;have aR:=ah pb;have XG:=ah Rm;have kr:=ah iV;have gN:=pb.size;clear ho pb Rm iV hX hx cj dM;have Hb : Hid (Bw wr wr):=Below.refl _ _;obtain ⟨p0,p1⟩:=Hp.out.c2;obtain ⟨c0,c1,c2⟩:=Hc.out.c3;obtain ⟨t0,t1,t2,t3⟩:=Ht.out.w4;go_wp2_with fail;refine bE (fun w'=>w'.cell? ⟨w.heap.size,1,none⟩ = some (.slice (some ⟨b,o,none⟩) n cap) /\ w'.cell? ⟨w.heap.size + 1,0,none⟩ = some (.bool s) /\ w'.cell? ⟨w.heap.size + 1,1,none⟩ = some (.string (bs m)) /\ w'.cell? ⟨w.heap.size + 1,2,none⟩ = some (.int .i64 e) /\ w'.cell? ⟨b,o + k * 4,none⟩ = some (.string (bs l)) /\ w'.cell? ⟨b,o + k * 4 + 1,none⟩ = some (.bool s1) /\ w'.cell? ⟨b,o + k * 4 + 2,none⟩ = some (.string (bs q1)) /\ w'.cell? ⟨b,o + k * 4 + 3,none⟩ = some (.int .i64 e1)) (fun i=>Nat.blt i 100000) [(0,true),(1,true),(2,true),(3,true),(4,true),(5,true),(6,true),(7,true),(8,true),(9,true),(10,true),(11,true),(12,true),(13,true),(14,false),(15,true),(16,false),(17,false),(18,true)] zk zk rfl zk zc ⟨p1,c0,c1,c2,t0,t1,t2,t3⟩ ?_;iterate 14 (refine pT rfl rfl ?_ (by intro w' ⟨q0,q1,q2,q3,q4,q5,q6,q7⟩;go_simp;try with_reducible rfl);try simp only [UU])
    refine aI rfl rfl (fun K hK=>?_);go_simp;with_reducible refine (ai6 s1 q1 e1 s m e X HX.out _ kr.out gG.out).mono ?_
    rintro e w4 ⟨rfl,hq⟩;have ae : Bw wr w4:=by first | exact hq | exact aN hq
    clear p0 p1 c0 c1 c2 t0 t1 t2 t3;replace Hp:=kB Hp ae;replace Hc:=kB Hc ae;replace Ht:=kW Ht ae;obtain ⟨p0,p1⟩:=Hp.out.c2;obtain ⟨c0,c1,c2⟩:=Hc.out.c3;obtain ⟨t0,t1,t2,t3⟩:=Ht.out.w4;replace Hb:=az Hb ae;clear ae;refine hK _ _ (fun _=>⟨p1,c0,c1,c2,t0,t1,t2,t3⟩) ?_;clear hK K;try simp only [UU]
    refine pT rfl rfl ?_;try simp only [UU]
    refine aI rfl rfl (fun K hK=>?_);go_simp;refine hK _ _ (fun _=>⟨aH p1,aH c0,aH c1,aH c2,aH t0,aH t1,aH t2,aH t3⟩) ?_;clear hK K;try simp only [UU]
    refine bG (fun W5=>ai W5 (w4.heap.size) 107 [.string (bs l),.bool (au (dN X)),.string (bs (nt (dN X).natAbs)),.int .i64 (dE X)] /\ Bw w4 W5) (by first | exact dP | exact dQ) ?_;rintro W5 ⟨qd,ae⟩;clear p0 p1 c0 c1 c2 t0 t1 t2 t3;have amR:=Hp.out.lt;have amt:=Hc.out.lt;replace Hp:=kB Hp ae;replace Hc:=kB Hc ae;replace Ht:=kW Ht ae;have Hd:=ah qd;clear qd;obtain ⟨p0,p1⟩:=Hp.out.c2;obtain ⟨c0,c1,c2⟩:=Hc.out.c3;obtain ⟨t0,t1,t2,t3⟩:=Ht.out.w4;obtain ⟨d0,d1,d2,d3⟩:=Hd.out.c4;replace Hb:=az Hb ae;clear ae;refine aI rfl rfl (fun K hK=>?_);have dH:=ownsRow_below cw.out Hb.out;have hs3:=Hb.out.size;refine wp_append_own _ _ _ 55 rfl w1.heap.size 107 i0 _ 4 48 Tryz.underlying55 Hi.out cO.out cP.out cE.out rfl zd v k ((Q.take k).flatMap aM) rfl dH ⟨w4.heap.size,0,none⟩ 1 1 [.string (bs l),.bool (au (dN X)),.string (bs (nt (dN X).natAbs)),.int .i64 (dE X)] rfl rfl (gb Hd.out) zy zx zo zo ?_;intro v' w8 dG aZ _;have nb : ∀ b,b < w1.heap.size -> some b ≠ v.ownBlock:=fun b hb e=>by have:=cL dH b e.symm;omega
    refine hK _ _ (fun _=>⟨bR aZ p1 (nb _ zp),bR aZ c0 (nb _ zp),bR aZ c1 (nb _ zp),bR aZ c2 (nb _ zp),bR aZ t0 (nb _ zp),bR aZ t1 (nb _ zp),bR aZ t2 (nb _ zp),bR aZ t3 (nb _ zp)⟩) ?_;clear hK K;try simp only [UU]
    have fM:=(aJ aR.out Hb.out).grown aZ zo (fun j e=>cL dH j e);rw [<- XG.out] at dG;have gF:=ah fM;have gp:=ah dG;refine pT rfl rfl ?_;try simp only [UU]
    simp only [aV];clear nb dH dG aZ fM p0 p1 c0 c1 c2 t0 t1 t2 t3 d0 d1 d2 d3;go_wp2;go_roundw;case rel=>exact ⟨k + 1,v',by omega,by go_num,rfl,gp.out,gF.out⟩
    case measure=>simp [intOf];omega
  . obtain rfl : k = n:=by omega
    have htk : Q.take k = Q:=List.take_of_length_le (by rw [Nz.out];exact Nat.le_refl _);rw [htk] at ho;obtain ⟨a2,c2,rfl,hat,_⟩:=dA ho;have fu:=ah hat;have Hb : Hid (Bw w wr):=dM;have YC:=ah (uD.out wr a2 c2 hat);clear ho pb dM htk hat Hc;obtain ⟨p0,p1⟩:=Hp.out.c2;obtain ⟨r0,aj,r1,ar⟩:=Hr.out.g2;go_wp2_with fail;refine (YC.out).mono ?_;rintro e w6 ⟨a9,d9,rfl,AZ,ae⟩;clear p0 p1 r0 aj r1 ar;replace Hp:=kB Hp ae;replace Hr:=kB Hr ae;obtain ⟨p0,p1⟩:=Hp.out.c2;obtain ⟨r0,aj,r1,ar⟩:=Hr.out.g2;replace Hb:=az Hb ae;clear ae;have Zu:=ah AZ;clear AZ;go_wp2;have h9:=Zu.out.store Hr.out zd (.int .i64 (V : Int)) (.slice a9 C.length d9);refine gq (fun w9=>cd w9 a9 d9 C /\ ai w9 (w.heap.size + 1 + 1) 57 [.int .i64 (V : Int),.slice a9 C.length d9] /\ Bw w w9) ⟨h9,(Hr.out.set 0 _).set 1 _,(Hb.out.setCell zp _).setCell zp _⟩ ?_;rintro w9 ⟨q1,q2,q3⟩;obtain ⟨x0,x1⟩:=q2.c2;exact bodyPost_ret (v:=.tuple #[.agg #[.int .i64 (V : Int),.slice a9 C.length d9],.int .i64 0]) (by simp [results,Tryz.results43,go_sem,x0,x1]) rfl ⟨_,_,rfl,q1,q3⟩
theorem ai2 (ts : List aK) (a a' : Option Addr) (n cap cap' : Nat) (w : World) (hn : ts.length = n) (hl : n <= 65536) (ha : At w a (ts.flatMap aM)) (ha' : At w a' (ts.flatMap aM)) :
 Calls Tryz.prog 64 #[.slice a n cap,.slice a' n cap'] w fun e w'=>e = .returned (.bool true) /\ Bw w w':=by
 have Ha:=ah ha;have oZ:=ah ha';have Hn:=ah hn;clear ha ha' hn;have Hb : Hid (Bw w w):=Below.refl _ _;go_enter Tryz.func64,Tryz.ntmps64;go_wp2_with fail;go_loopw [5] (fun x wr=>∃ k : Nat,k <= n /\ x = .int .i64 (k : Int) /\ Bw w wr) (fun x _=>n - (intOf x).toNat);case atStart=>exact ⟨0,Nat.zero_le _,rfl,Hb.out⟩
 case round=>
  clear Hb;obtain ⟨k,hk,rfl,pb⟩:=hrel;by_cases hlt : k < n
  . have hk2 : k < ts.length:=by rw [Hn.out];exact hlt
    obtain ⟨l,s,m,e,hx⟩ : ∃ l s m e,ts[k] = (l,s,m,e):=⟨_,_,_,_,rfl⟩;obtain ⟨b,o,rfl,cj⟩:=(Ha.out.below pb).term k hk2 hx;obtain ⟨b',o',rfl,pQ⟩:=(oZ.out.below pb).term k hk2 hx;have bz:=iH n cap k (k : Int) (rfl : (some ⟨b,o,none⟩ : Option Addr) = _) hlt rfl;have SK:=iH n cap' k (k : Int) (rfl : (some ⟨b',o',none⟩ : Option Addr) = _) hlt rfl;have Hx : Hid (bj wr b (o + k * 4) [.string (bs l),.bool s,.string (bs m),.int .i64 e]):=cj;have Hy : Hid (bj wr b' (o' + k * 4) [.string (bs l),.bool s,.string (bs m),.int .i64 e]):=pQ;have aR:=ah pb;clear pb cj pQ hx;have Hb : Hid (Bw wr wr):=Below.refl _ _;obtain ⟨x0,x1,x2,x3⟩:=Hx.out.w4;obtain ⟨y0,y1,y2,y3⟩:=Hy.out.w4;go_wp2_with fail;refine bE (fun w'=>w'.cell? ⟨b,o + k * 4,none⟩ = some (.string (bs l)) /\ w'.cell? ⟨b,o + k * 4 + 1,none⟩ = some (.bool s) /\ w'.cell? ⟨b,o + k * 4 + 2,none⟩ = some (.string (bs m)) /\ w'.cell? ⟨b,o + k * 4 + 3,none⟩ = some (.int .i64 e) /\ w'.cell? ⟨b',o' + k * 4,none⟩ = some (.string (bs l)) /\ w'.cell? ⟨b',o' + k * 4 + 1,none⟩ = some (.bool s) /\ w'.cell? ⟨b',o' + k * 4 + 2,none⟩ = some (.string (bs m)) /\ w'.cell? ⟨b',o' + k * 4 + 3,none⟩ = some (.int .i64 e)) (fun i=>Nat.blt i 100000) [(0,true),(1,true),(2,true),(3,true),(4,true),(5,true),(6,true),(7,true),(8,true)] zk zk rfl zk zc ⟨x0,x1,x2,x3,y0,y1,y2,y3⟩ ?_;iterate 9 (refine pT rfl rfl ?_ (by intro w' ⟨q0,q1,q2,q3,q4,q5,q6,q7⟩;go_simp;try with_reducible rfl);try simp only [UU])
    simp only [aV];go_wp2;go_roundw;case rel=>exact ⟨k + 1,by omega,by go_num,aR.out.drew⟩
    case measure=>simp [intOf];omega
  . obtain rfl : k = n:=by omega
    have aR:=ah pb;go_wp2;refine bodyPost_ret (results_tmp rfl _ _ _) rfl ⟨rfl,aR.out⟩
theorem aiV (V : Int) (ts : List aK) (a a' : Option Addr) (cap cap' : Nat) (w : World) (hl : ts.length <= 65536) (ha : At w a (ts.flatMap aM)) (ha' : At w a' (ts.flatMap aM)) :
 Calls Tryz.prog 25 #[.agg #[.int .i64 V,.slice a ts.length cap],.agg #[.int .i64 V,.slice a' ts.length cap']] w fun e w'=>e = .returned (.bool true) /\ Bw w w':=by
 obtain ⟨n,hn⟩ : ∃ n,ts.length = n:=⟨_,rfl⟩;have h1:=fun W (hW : Bw w W)=>ai2 ts a a' n cap cap' W hn zo (ha.below hW) (ha'.below hW);rw [hn];have H1:=ah h1;clear h1 ha ha' hn hl;have Hb : Hid (Bw w w):=Below.refl _ _;go_enter Tryz.func25,Tryz.ntmps25;go_wp2_with fail;obtain ⟨R,hR⟩ : ∃ R : World -> Prop,(fun W=>ai W (w.heap.size) 57 [.int .i64 V,.slice a n cap] /\ ai W (w.heap.size + 1) 57 [.int .i64 V,.slice a' n cap'] /\ Bw w W) = R:=⟨_,rfl⟩;first | refine bB R ?hR ?_ | refine bA R ?hR ?_
 case hR=>subst hR;exact ⟨((ai.newAt w _ _ (b:=w.heap.size) rfl).alloc _),(ai.newAt (w.alloc _) _ _ (b:=w.heap.size + 1) zm),(zl.alloc zj _)⟩
 subst hR;rintro W ⟨qp,qq,ae⟩;have Hp:=ah qp;clear qp;have Hq:=ah qq;clear qq;obtain ⟨p0,p1⟩:=Hp.out.c2;obtain ⟨q0,q1⟩:=Hq.out.c2;replace Hb:=az Hb ae;clear ae;go_wp2_with fail;refine (H1.out _ Hb.out).mono ?_;rintro e w1 ⟨rfl,ae⟩;clear p0 p1 q0 q1;replace Hp:=kB Hp ae;replace Hq:=kB Hq ae;obtain ⟨p0,p1⟩:=Hp.out.c2;obtain ⟨q0,q1⟩:=Hq.out.c2;replace Hb:=az Hb ae;clear ae;go_wp2;go_ret;exact ⟨rfl,Hb.out⟩
end Go.Proofs.YtdaadlblknpipaaGreatDoor
