/- Package poly: like,Add. -/
import Derived.Test.YtdaadlblknpipaaGreatDoorZ15
set_option linter.unusedVariables false
set_option linter.unusedSimpArgs false
set_option maxRecDepth 100000
set_option maxHeartbeats 16000000
namespace Go.Proofs.YtdaadlblknpipaaGreatDoor
open Go.RowKit
attribute [local go_sem ↓] Go.wp_at_zero Go.wp_at_succ
def gQ (w : World) (V B : Nat) (ps : List Pv) (Ts : Nat -> List aK) : Prop:=∀ k (h : k < ps.length),∃ a c,ps[k] = ⟨(V : Int),a,(Ts k).length,c⟩ /\ cd w a c (Ts k) /\ iN V B (Ts k)
theorem gQ.below {w w' : World} {V B : Nat} {ps : List Pv} {Ts : Nat -> List aK} (h : gQ w V B ps Ts) (hb : Bw w w') : gQ w' V B ps Ts:=fun k hk=>by obtain ⟨a,c,h1,h2,h3⟩:=h k hk;exact ⟨a,c,h1,h2.below hb,h3⟩
theorem below_drewN {n : Nat} {w w' : World} (h : Below n w w') (k : Nat) : Below n w (w'.drewN k):=by
 induction k with
 | zero=>exact h
 | succ k ih=>exact ih.drew
theorem af3 (V V' : Int) (aT : Option Addr) (nT cT : Nat) (bl : Nat) (b o L cap : Nat) (q : Value) (w : World) (hc : w.cell? ⟨bl,0,none⟩ = some (.slice (some ⟨b,o,none⟩) L cap)) (hL : 0 < L) (hw : bj w b o [.int .i64 V,q]) :
 Calls Tryz.prog 140 #[.agg #[.int .i64 V',.slice aT nT cT],.pointer (some ⟨bl,0,none⟩)] w fun ex w'=>ex = .returned (.bool (V' != V)) /\ Bw w w':=by
 have bz:=vN L cap 0 0 (rfl : (some ⟨b,o,none⟩ : Option Addr) = _) hL rfl;rw [Nat.zero_mul,Nat.add_zero] at bz;have h0 : w.cell? ⟨b,o,none⟩ = some (.int .i64 V):=by have:=hw.w2.1;exact this
 have Hc:=ah hc;have H0:=ah h0;clear hc h0 hw;obtain ⟨W,aL⟩ : ∃ W,(w.alloc (.cells #[.int .i64 V',.slice aT nT cT] 57)) = W:=⟨_,rfl⟩;have Hb : Hid (Bw w W):=by rw [<- aL];exact zl
 have Hx : Hid (ai W (w.heap.size) 57 [.int .i64 V',.slice aT nT cT]):=by rw [<- aL];exact ai.newAt _ _ _ zm
 obtain ⟨x0,x1⟩:=Hx.out.c2;have k1:=cell_later Hb.out Hc.out;have k2:=cell_later Hb.out H0.out;go_enter Tryz.func140,Tryz.ntmps140;go_wp2_with fail;go_quiet (fail)
 go_wp2;refine bodyPost_ret (results_tmp rfl _ _ _) rfl ⟨rfl,(below_drewN Hb.out _)⟩
theorem af4 (V B : Nat) (b o L cap : Nat) (ps : List Pv) (Ts : Nat -> List aK) (w : World) (hL : ps.length = L) (Ea : 0 < L) (JB : L <= 65536) (ha : At w (some ⟨b,o,none⟩) (ps.flatMap ke)) (hp : gQ w V B ps Ts) (hT : aB w) :
 Calls Tryz.prog 98 #[.slice (some ⟨b,o,none⟩) L cap] w fun e w'=>e = .returned (.int .i64 0) /\ Bw w w':=by
 have eg : ∀ args w,(callFunc 140 args).run Tryz.prog w = .ok (.enter 140 args) w:=enters_of Tryz.func140 zk rfl;have hct : ∀ W bl,Bw w W -> W.cell? ⟨bl,0,none⟩ = some (.slice (some ⟨b,o,none⟩) L cap) -> Calls Tryz.prog 139 #[.slice (some ⟨b,o,none⟩) L cap,.func (.func 140) #[] #[.pointer (some ⟨bl,0,none⟩)]] W fun e w'=>e = .returned (.bool false) /\ Bw W w':=by
  intro W bl hW hc;obtain ⟨a0,c0,e0,_,_⟩:=hp 0 zo;obtain ⟨b',o',hab,cj⟩:=(ha.below hW).anX 0 zo e0;simp only [Option.some.injEq,Addr.mk.injEq,and_true] at hab;obtain ⟨rfl,rfl⟩:=hab;rw [Nat.zero_mul,Nat.add_zero] at cj;have h:=acF (some ⟨b,o,none⟩) L cap ps 140 #[.pointer (some ⟨bl,0,none⟩)] (fun p=>p.V != (V : Int)) W hL zo (ha.below hW) eg (fun x hx W2 hW2=>by simpa using af3 (V : Int) x.V x.a x.n x.c bl b o L cap _ W2 (cell_later hW2 hc) Ea (cj.below hW2));have hf : (ps.any fun p=>p.V != (V : Int)) = false:=by rw [List.any_eq_false];intro p Bb;obtain ⟨k,hk,rfl⟩:=List.mem_iff_getElem.1 Bb;obtain ⟨a,c,e1,_,_⟩:=hp k hk;rw [e1];simp
  rwa [hf] at h
 have fc:=fun W (hW : Bw w W) k (hk : k < ps.length)=>(show ∃ a c,ps[k] = ⟨(V : Int),a,(Ts k).length,c⟩ /\ Calls Tryz.prog 77 #[.agg #[.int .i64 (V : Int),.slice a (Ts k).length c]] W fun e w'=>e = .returned (.int .i64 0) /\ Bw W w' from by
  obtain ⟨a,c,e1,h1,h2⟩:=hp k hk;refine ⟨a,c,e1,?_⟩;have h:=VH (V : Int) a c (Ts k).length (Ts k) W rfl (by have:=h2.1.2.2.1;omega) (h1.1.below hW) h2.chk (hT.below hW)
  rwa [VI h2.1] at h)
 have Gl:=ah hct;have mC:=ah fc;have Ha:=ah ha;have HL:=ah hL;clear hct fc ha hL hp hT eg;have hLn : ((L : Int) == 0) = false:=by simp;omega
 have Hb : Hid (Bw w w):=Below.refl _ _;go_enter Tryz.func98,Tryz.ntmps98;go_wp2_with fail;obtain ⟨R,hR⟩ : ∃ R : World -> Prop,(fun W=>ai W (w.heap.size) 50 [.slice (some ⟨b,o,none⟩) L cap] /\ Bw w W) = R:=⟨_,rfl⟩;first | refine bB R ?hR ?_ | refine bA R ?hR ?_
 case hR=>subst hR;exact ⟨(ai.newAt w _ _ (b:=w.heap.size) rfl),zl⟩
 subst hR;rintro W ⟨ql,ae⟩;have Hl:=ah ql;clear ql;have l0:=Hl.out.c1;replace Hb:=az Hb ae;clear ae;go_loopw [8] (fun x wr=>∃ k : Nat,k <= L /\ x = .int .i64 (k : Int) /\ Bw W wr) (fun x _=>L - (intOf x).toNat);case atStart=>exact ⟨0,Nat.zero_le _,rfl,Below.refl _ _⟩
 case round=>
  clear l0;obtain ⟨k,hk,rfl,pb⟩:=hrel;have dM:=ah (aJ Hb.out pb);have hl:=ah (Hl.out.below pb);have aR:=ah pb;clear pb Hb Hl;by_cases hlt : k < L
  . have hk2 : k < ps.length:=by rw [HL.out];exact hlt
    obtain ⟨a1,c1,e1,hcall⟩:=mC.out wr dM.out k hk2;obtain ⟨b',o',hab,cj⟩:=(Ha.out.below dM.out).anX k hk2 e1;obtain ⟨rfl,rfl⟩ : b = b' /\ o = o':=by simp at hab;exact hab
    have hcall:=fun W (hW : Bw w W)=>(mC.out W hW k hk2);have bz:=vN L cap k (k : Int) (rfl : (some ⟨b,o,none⟩ : Option Addr) = _) hlt rfl;obtain ⟨nT,vC⟩ : ∃ nT,(Ts k).length = nT:=⟨_,rfl⟩;have aeF : Hid (∀ W,Bw w W -> Calls Tryz.prog 77 #[.agg #[.int .i64 (V : Int),.slice a1 nT c1]] W fun e w'=>e = .returned (.int .i64 0) /\ Bw W w'):=by intro W hW;obtain ⟨a2,c2,e2,h2⟩:=hcall W hW;rw [e1] at e2;simp only [Pv.mk.injEq,true_and] at e2;obtain ⟨rfl,rfl⟩:=e2;rw [vC] at h2;exact h2
    rw [vC] at cj;have Hx : Hid (bj wr b (o + k * 2) [.int .i64 (V : Int),.slice a1 nT c1]):=cj;clear cj hcall hab e1 vC;have Hb : Hid (Bw wr wr):=Below.refl _ _;obtain ⟨x0,x1⟩:=Hx.out.w2;have P0:=x0;have P1:=x1;obtain ⟨W3,ot⟩ : ∃ W3,(wr.alloc (.cells #[.int .i64 (V : Int),.slice a1 nT c1] 57)) = W3:=⟨_,rfl⟩;have ae : Bw wr W3:=by rw [<- ot];exact zl
    clear x0 x1;replace Hx:=kW Hx ae;have Hv : Hid (ai W3 (wr.heap.size) 57 [.int .i64 (V : Int),.slice a1 nT c1]):=by rw [<- ot];exact ai.newAt _ _ _ zm
    obtain ⟨x0,x1⟩:=Hx.out.w2;obtain ⟨v0,v1⟩:=Hv.out.c2;replace Hb:=az Hb ae;clear ae;go_wp2_with fail;refine (aeF.out _ (aJ dM.out Hb.out)).mono ?_;rintro e w4 ⟨rfl,ae⟩;clear x0 x1 v0 v1;replace Hx:=kW Hx ae;replace Hv:=kB Hv ae;obtain ⟨x0,x1⟩:=Hx.out.w2;obtain ⟨v0,v1⟩:=Hv.out.c2;replace Hb:=az Hb ae;clear ae;go_wp2;go_roundw;case rel=>exact ⟨k + 1,by omega,by go_num,aJ aR.out Hb.out⟩
    case measure=>simp [intOf];omega
  . obtain rfl : k = L:=by omega
    have Hb:=dM;have Hl:=hl;have l0:=Hl.out.c1;go_wp2_with fail;refine (Gl.out _ _ Hb.out l0).mono ?_;rintro e w6 ⟨rfl,ae⟩;clear l0;replace Hl:=kB Hl ae;have l0:=Hl.out.c1;replace Hb:=az Hb ae;clear ae;go_wp2;go_ret;exact ⟨rfl,Hb.out⟩
def gL (Ts : Nat -> List aK) : Nat -> List aK
 | 0=>[]
 | k + 1=>fI (gL Ts k) (Ts k)
def kw (Ts : Nat -> List aK) : Nat -> List aK
 | 0=>[]
 | k + 1=>kw Ts k ++ Ts k
theorem acu (Ts : Nat -> List aK) (k : Nat) (m : List UInt8) : bL (gL Ts k) m = bL (kw Ts k) m:=by
 induction k with
 | zero=>rfl
 | succ k ih=>unfold gL kw;rw [PO,uT,ih]
theorem Vm (Ts : Nat -> List aK) (k : Nat) : (gL Ts k).length <= (kw Ts k).length:=by
 induction k with
 | zero=>exact Nat.le_refl _
 | succ k ih=>unfold gL kw;have:=Vl (gL Ts k) (Ts k);rw [List.length_append];omega
theorem PH (Ts : Nat -> List aK) (j k : Nat) (h : j <= k) : (kw Ts j).length <= (kw Ts k).length:=by
 induction k with
 | zero => obtain rfl : j = 0:=by omega
           exact Nat.le_refl _
 | succ k ih =>
   by_cases e : j = k + 1
   . subst e;exact Nat.le_refl _
   . have:=ih zo;rw [show kw Ts (k + 1) = kw Ts k ++ Ts k from rfl,List.length_append];omega
theorem ag0 {B : Nat} (Ts : Nat -> List aK) (k : Nat) (h : ∀ j,j < k -> ∀ t ∈ Ts j,Fit B t.2) (hB : B + k <= 268435456) : ∀ t ∈ gL Ts k,Fit (B + k) t.2:=by
 induction k with
 | zero=>intro t ht;cases ht
 | succ k ih =>unfold gL;have:=Vk (B:=B + k) (gL Ts k) (Ts k) (ih (fun j hj=>h j zo) zo) (fun t ht=>(h k zo t ht).mono zo) zo;exact this
theorem aaM (V B : Nat) (b o L cap : Nat) (ps : List Pv) (Ts : Nat -> List aK) (C : List aK) (w : World) (hL : ps.length = L) (Ea : 0 < L) (JB : L <= 65536) (ha : At w (some ⟨b,o,none⟩) (ps.flatMap ke)) (hp : gQ w V B ps Ts) (hn : (kw Ts L).length <= 4096) (hB : B + L + 8192 <= 268435456) (hT : aB w) (hC : bC (kw Ts L) = C) :
 Calls Tryz.prog 60 #[.slice (some ⟨b,o,none⟩) L cap] w fun ex w'=>∃ a' c',ex = .returned (.tuple #[.agg #[.int .i64 (V : Int),.slice a' C.length c'],.int .i64 0]) /\ cd w' a' c' C /\ Bw w w':=by
 have Ag:=enters_of Tryz.func100 zk rfl;have Af:=enters_of Tryz.func101 zk rfl;have hlk:=fun W (hW : Bw w W)=>af4 V B b o L cap ps Ts W hL Ea JB (ha.below hW) (hp.below hW) (hT.below hW);have QJ : bC (gL Ts L) = C:=by rw [<- hC];exact xg (acu Ts L)
 have vA : (gL Ts L).length <= 4096:=Nat.le_trans (Vm Ts L) hn;have Kh : ∀ j,j < L -> ∀ t ∈ Ts j,Fit B t.2:=fun j hj=>by obtain ⟨a,c,_,_,h⟩:=hp j zo;exact h.2
 have vz:=fun k (hk : k <= L)=>ag0 (B:=B) Ts k (fun j hj=>Kh j zo) zo;have hcl:=fun w0 W v (hw0 : Bw w w0) (hb0 : Bw w0 W) (ho : W.ownsRow w0.heap.size 107 4 v (gL Ts L).length ((gL Ts L).flatMap aM))=>IM (V : Int) v _ (gL Ts L) C (B + L) w0 W hb0 rfl vA ho (vz L (Nat.le_refl _)) zo (hT.below hw0) QJ;obtain ⟨a0,c0,e0,_,_⟩:=hp 0 zo;obtain ⟨b',o',hab,cj⟩:=ha.anX 0 zo e0;obtain ⟨rfl,rfl⟩ : b = b' /\ o = o':=by simp at hab;exact hab
 rw [Nat.zero_mul,Nat.add_zero] at cj;have Kl:=vN L cap 0 0 (rfl : (some ⟨b,o,none⟩ : Option Addr) = _) Ea rfl;rw [Nat.zero_mul,Nat.add_zero] at Kl;obtain ⟨n0,hn0⟩ : ∃ n0,(Ts 0).length = n0:=⟨_,rfl⟩;rw [hn0] at cj;have hlb : b < w.heap.size:=World.block_lt_of_cell? w _ cj.w2.1;have YV:=ah hlk;have gm:=ah hcl;have Zc:=ah vz;have Hp:=ah hp;have Ha:=ah ha;have HT:=ah hT;have HL:=ah hL;have Gu:=ah Ag;have Gt:=ah Af;have zh:=ah Kh;have Hw:=ah cj;have zD:=ah Kl
 have lM : Hid (∀ k,k < L -> (gL Ts k).length <= 4096 /\ (Ts k).length <= 4096):=fun k hk=>⟨Nat.le_trans (Nat.le_trans (Vm Ts k) (PH Ts k L zo)) hn,by
  have h1:=PH Ts (k + 1) L zo
  rw [show kw Ts (k + 1) = kw Ts k ++ Ts k from rfl,List.length_append] at h1;omega⟩
 clear hlk hcl vz hp ha hT hL Ag Af Kh cj Kl hC QJ hn vA hab e0 hn0;have Hb : Hid (Bw w w):=Below.refl _ _;go_enter Tryz.func60,Tryz.ntmps60;go_wp2_with fail;obtain ⟨R,hR⟩ : ∃ R : World -> Prop,(fun W=>ai W (w.heap.size) 57 [.int .i64 0,.slice none 0 0] /\ Bw w W) = R:=⟨_,rfl⟩;first | refine bB R ?hR ?_ | refine bA R ?hR ?_
 case hR=>subst hR;exact ⟨(ai.newAt w _ _ (b:=w.heap.size) rfl),zl⟩
 subst hR;rintro W ⟨qr,ae⟩;have Hr:=ah qr;clear qr;obtain ⟨r0,aj,r1,ar⟩:=Hr.out.g2;replace Hb:=az Hb ae;clear ae;go_wp2_with fail;refine (YV.out _ Hb.out).mono ?_;rintro e w1 ⟨rfl,ae⟩;clear r0 aj r1 ar;replace Hr:=kB Hr ae;obtain ⟨r0,aj,r1,ar⟩:=Hr.out.g2;replace Hb:=az Hb ae;clear ae;have ji:=Hr;have df:=Hb;go_wp2_with fail;go_loopw [5,16] (fun s5 x wr=>∃ (k : Nat) (v : Value),k <= L /\ x = .int .i64 (k : Int) /\ v = s5 /\ wr.ownsRow w1.heap.size 107 4 v (gL Ts k).length ((gL Ts k).flatMap aM) /\ Bw w1 wr) (fun _ x _=>L - (intOf x).toNat);case atStart=>exact ⟨0,_,Nat.zero_le _,rfl,rfl,World.ownsRow_nil _ _ _ _,Below.refl _ _⟩
 case round=>
  clear r0 aj r1 ar Hr Hb;obtain ⟨k,v,hk,rfl,rfl,ho,pb⟩:=hrel;have dM:=aJ df.out pb;have yz:=df.out.size;have gN:=pb.size;by_cases hlt : k < L
  . have hk2 : k < ps.length:=by rw [HL.out];exact hlt
    obtain ⟨a1,c1,e1,hpl,hft⟩:=Hp.out k hk2;obtain ⟨b',o',hab,cj⟩:=(Ha.out.below dM).anX k hk2 e1;obtain ⟨rfl,rfl⟩ : b = b' /\ o = o':=by simp at hab;exact hab
    have bz:=vN L cap k (k : Int) (rfl : (some ⟨b,o,none⟩ : Option Addr) = _) hlt rfl;obtain ⟨av,cv,rfl,sV,_⟩:=dA ho;have Bd:=ud ho;have AP:=lM.out k hlt;have Sv:=Zc.out k zo;have Su:=zh.out k hlt;have hsk:=hpl.2.1;have Hm : Hid (∀ W,Bw wr W -> Calls Tryz.prog 99 #[.slice av (gL Ts k).length cv,.slice a1 (Ts k).length c1,.func (.func 100) #[] #[],.func (.func 101) #[] #[]] W fun e w'=>∃ v',e = .returned v' /\ w'.ownsRow w1.heap.size 107 4 v' (gL Ts (k + 1)).length ((gL Ts (k + 1)).flatMap aM) /\ Bw W w'):=by intro W hW;refine (Vb av _ cv (gL Ts k) a1 _ c1 (Ts k) (B + L) W rfl rfl Bd hsk zo zo (sV.below hW) (hpl.1.below (aJ dM hW)) (fun t ht=>(Sv t ht).mono zo) (fun t ht=>(Su t ht).mono zo) zo (HT.out.below (aJ dM hW))).mono ?_;rintro e w' ⟨v',rfl,h1,h2⟩;exact ⟨v',rfl,ny h1 (by have:=hW.size;omega),h2⟩
    obtain ⟨nv,pN⟩ : ∃ nv,(gL Ts k).length = nv:=⟨_,rfl⟩;obtain ⟨nT,vC⟩ : ∃ nT,(Ts k).length = nT:=⟨_,rfl⟩;rw [pN,vC] at Hm;rw [vC] at cj;have Hx : Hid (bj wr b (o + k * 2) [.int .i64 (V : Int),.slice a1 nT c1]):=cj;have aR:=ah pb;rw [pN];clear cj hab e1 vC pN hpl hft ho sV Bd AP Sv Su hsk pb dM;have Hb : Hid (Bw wr wr):=Below.refl _ _;obtain ⟨x0,x1⟩:=Hx.out.w2;have P0:=x0;have P1:=x1;obtain ⟨W3,ot⟩ : ∃ W3,(wr.alloc (.cells #[.int .i64 (V : Int),.slice a1 nT c1] 57)) = W3:=⟨_,rfl⟩;have ae : Bw wr W3:=by rw [<- ot];exact zl
    clear x0 x1;replace Hx:=kW Hx ae;have Hv : Hid (ai W3 (wr.heap.size) 57 [.int .i64 (V : Int),.slice a1 nT c1]):=by rw [<- ot];exact ai.newAt _ _ _ zm
    obtain ⟨x0,x1⟩:=Hx.out.w2;obtain ⟨v0,v1⟩:=Hv.out.c2;replace Hb:=az Hb ae;clear ae;have Jf:=Gu.out;have DF:=Gt.out;go_wp2_with fail;refine (Hm.out _ Hb.out).mono ?_;rintro e w4 ⟨v',rfl,Tm,hb4⟩;have dc:=aJ aR.out (aJ Hb.out hb4);have Zm:=ah Tm;have eX:=ah dc;clear Jf DF Tm dc hb4;go_wp2;go_roundw;case rel=>exact ⟨k + 1,v',by omega,by go_num,rfl,Zm.out,eX.out⟩
    case measure=>simp [intOf];omega
  . obtain rfl : k = L:=by omega
    obtain ⟨av,cv,rfl,_,_⟩:=dA ho;have Hx:=ah (Hw.out.below dM);have Hb : Hid (Bw w wr):=dM;have cw:=ah ho;have aR:=ah pb;have Hr:=ah (ji.out.below pb);have bz:=zD.out;clear ho pb dM;obtain ⟨x0,x1⟩:=Hx.out.w2;obtain ⟨r0,aj,r1,ar⟩:=Hr.out.g2;have aaq : Hid (bj w1 b o [.int .i64 (V : Int),.slice a0 n0 c0]):=Hw.out.below df.out;go_wp2_with fail;refine (gm.out w1 _ _ df.out aR.out cw.out).mono ?_;rintro e w6 ⟨a2,d2,rfl,dU,ae⟩;clear x0 x1 r0 aj r1 ar;replace Hx:=ah (aaq.out.below ae);replace Hr:=ah (ji.out.below ae);obtain ⟨x0,x1⟩:=Hx.out.w2;obtain ⟨r0,aj,r1,ar⟩:=Hr.out.g2;replace Hb:=ah (aJ df.out ae);clear ae;go_wp2;refine xd (Hr.out) dU Hb.out zo ?_;intro w9 iF gg jQ;obtain ⟨q0,q1⟩:=iF.c2;exact bodyPost_ret (v:=.tuple #[.agg #[.int .i64 (V : Int),.slice a2 C.length d2],.int .i64 0]) (by simp [results,Tryz.results60,go_sem,q0,q1]) rfl ⟨_,_,rfl,BA gg,jQ⟩
end Go.Proofs.YtdaadlblknpipaaGreatDoor
