/- Package poly: like,Add. -/
import Derived.Test.YtdaadlblknpipaaGreatDoorZ15
set_option linter.unusedVariables false
set_option linter.unusedSimpArgs false
set_option maxRecDepth 100000
set_option maxHeartbeats 16000000
namespace Go.Proofs.YtdaadlblknpipaaGreatDoor
open Go.RowKit
attribute [local go_sem ↓] Go.wp_at_zero Go.wp_at_succ
def gQ (w : World) (V B : Nat) (ps : List Pv) (Ts : Nat -> List aJ) : Prop:=∀ k (h : k < ps.length),∃ a c,ps[k] = ⟨(V : Int),a,(Ts k).length,c⟩ /\ cm w a c (Ts k) /\ iL V B (Ts k)
theorem gQ.below {w w' : World} {V B : Nat} {ps : List Pv} {Ts : Nat -> List aJ} (h : gQ w V B ps Ts) (hb : Bw w w') : gQ w' V B ps Ts:=fun k hk=>by obtain ⟨a,c,h1,h2,h3⟩:=h k hk;exact ⟨a,c,h1,h2.below hb,h3⟩
theorem below_drewN {n : Nat} {w w' : World} (h : Below n w w') (k : Nat) : Below n w (w'.drewN k):=by
 induction k with
 | zero=>exact h
 | succ k ih=>exact ih.drew
theorem afY (V V' : Int) (aT : Option Addr) (nT cT : Nat) (bl : Nat) (b o L cap : Nat) (q : Value) (w : World) (hc : w.cell? ⟨bl,0,none⟩ = some (.slice (some ⟨b,o,none⟩) L cap)) (hL : 0 < L) (hw : bo w b o [.int .i64 V,q]) :
 Calls Tryz.prog 140 #[.agg #[.int .i64 V',.slice aT nT cT],.pointer (some ⟨bl,0,none⟩)] w fun ex w'=>ex = .returned (.bool (V' != V)) /\ Bw w w':=by
 have bD:=vC L cap 0 0 (rfl : (some ⟨b,o,none⟩ : Option Addr) = _) hL rfl;rw [Nat.zero_mul,Nat.add_zero] at bD;have h0 : w.cell? ⟨b,o,none⟩ = some (.int .i64 V):=by have:=hw.w2.1;exact this
 have Hc:=ah hc;have H0:=ah h0;clear hc h0 hw;obtain ⟨W,aK⟩ : ∃ W,(w.alloc (.cells #[.int .i64 V',.slice aT nT cT] 57)) = W:=⟨_,rfl⟩;have Hb : Hid (Bw w W):=by rw [<- aK];exact zl
 have Hx : Hid (ai W (w.heap.size) 57 [.int .i64 V',.slice aT nT cT]):=by rw [<- aK];exact ai.newAt _ _ _ zm
 obtain ⟨x0,x1⟩:=Hx.out.c2;have k1:=cell_later Hb.out Hc.out;have k2:=cell_later Hb.out H0.out;go_enter Tryz.func140,Tryz.ntmps140;go_wp2_with fail;go_quiet (fail)
 go_wp2;refine bodyPost_ret (results_tmp rfl _ _ _) rfl ⟨rfl,(below_drewN Hb.out _)⟩
theorem afZ (V B : Nat) (b o L cap : Nat) (ps : List Pv) (Ts : Nat -> List aJ) (w : World) (hL : ps.length = L) (DY : 0 < L) (Jy : L <= 65536) (ha : At w (some ⟨b,o,none⟩) (ps.flatMap ke)) (hp : gQ w V B ps Ts) (hT : az w) :
 Calls Tryz.prog 98 #[.slice (some ⟨b,o,none⟩) L cap] w fun e w'=>e = .returned (.int .i64 0) /\ Bw w w':=by
 have eg : ∀ args w,(callFunc 140 args).run Tryz.prog w = .ok (.enter 140 args) w:=enters_of Tryz.func140 zk rfl;have hct : ∀ W bl,Bw w W -> W.cell? ⟨bl,0,none⟩ = some (.slice (some ⟨b,o,none⟩) L cap) -> Calls Tryz.prog 139 #[.slice (some ⟨b,o,none⟩) L cap,.func (.func 140) #[] #[.pointer (some ⟨bl,0,none⟩)]] W fun e w'=>e = .returned (.bool false) /\ Bw W w':=by
  intro W bl hW hc;obtain ⟨a0,c0,e0,_,_⟩:=hp 0 zo;obtain ⟨b',o',hab,cn⟩:=(ha.below hW).anH 0 zo e0;simp only [Option.some.injEq,Addr.mk.injEq,and_true] at hab;obtain ⟨rfl,rfl⟩:=hab;rw [Nat.zero_mul,Nat.add_zero] at cn;have h:=acm (some ⟨b,o,none⟩) L cap ps 140 #[.pointer (some ⟨bl,0,none⟩)] (fun p=>p.V != (V : Int)) W hL zo (ha.below hW) eg (fun x hx W2 hW2=>by simpa using afY (V : Int) x.V x.a x.n x.c bl b o L cap _ W2 (cell_later hW2 hc) DY (cn.below hW2));have hf : (ps.any fun p=>p.V != (V : Int)) = false:=by rw [List.any_eq_false];intro p AW;obtain ⟨k,hk,rfl⟩:=List.mem_iff_getElem.1 AW;obtain ⟨a,c,e1,_,_⟩:=hp k hk;rw [e1];simp
  rwa [hf] at h
 have eP:=fun W (hW : Bw w W) k (hk : k < ps.length)=>(show ∃ a c,ps[k] = ⟨(V : Int),a,(Ts k).length,c⟩ /\ Calls Tryz.prog 77 #[.agg #[.int .i64 (V : Int),.slice a (Ts k).length c]] W fun e w'=>e = .returned (.int .i64 0) /\ Bw W w' from by
  obtain ⟨a,c,e1,h1,h2⟩:=hp k hk;refine ⟨a,c,e1,?_⟩;have h:=VC (V : Int) a c (Ts k).length (Ts k) W rfl (by have:=h2.1.2.2.1;omega) (h1.1.below hW) h2.chk (hT.below hW)
  rwa [VD h2.1] at h)
 have Gj:=ah hct;have kS:=ah eP;have Ha:=ah ha;have HL:=ah hL;clear hct eP ha hL hp hT eg;have hLn : ((L : Int) == 0) = false:=by simp;omega
 have Hb : Hid (Bw w w):=Below.refl _ _;go_enter Tryz.func98,Tryz.ntmps98;go_wp2_with fail;obtain ⟨R,hR⟩ : ∃ R : World -> Prop,(fun W=>ai W (w.heap.size) 50 [.slice (some ⟨b,o,none⟩) L cap] /\ Bw w W) = R:=⟨_,rfl⟩;first | refine bE R ?hR ?_ | refine bC R ?hR ?_
 case hR=>subst hR;exact ⟨(ai.newAt w _ _ (b:=w.heap.size) rfl),zl⟩
 subst hR;rintro W ⟨ql,ae⟩;have Hl:=ah ql;clear ql;have l0:=Hl.out.c1;replace Hb:=au Hb ae;clear ae;go_loopw [8] (fun x wr=>∃ k : Nat,k <= L /\ x = .int .i64 (k : Int) /\ Bw W wr) (fun x _=>L - (intOf x).toNat);case atStart=>exact ⟨0,Nat.zero_le _,rfl,Below.refl _ _⟩
 case round=>
  clear l0;obtain ⟨k,hk,rfl,pb⟩:=hrel;have dK:=ah (aI Hb.out pb);have hl:=ah (Hl.out.below pb);have aQ:=ah pb;clear pb Hb Hl;by_cases hlt : k < L
  . have hk2 : k < ps.length:=by rw [HL.out];exact hlt
    obtain ⟨a1,c1,e1,hcall⟩:=kS.out wr dK.out k hk2;obtain ⟨b',o',hab,cn⟩:=(Ha.out.below dK.out).anH k hk2 e1;obtain ⟨rfl,rfl⟩ : b = b' /\ o = o':=by simp at hab;exact hab
    have hcall:=fun W (hW : Bw w W)=>(kS.out W hW k hk2);have bD:=vC L cap k (k : Int) (rfl : (some ⟨b,o,none⟩ : Option Addr) = _) hlt rfl;obtain ⟨nT,vk⟩ : ∃ nT,(Ts k).length = nT:=⟨_,rfl⟩;have aeA : Hid (∀ W,Bw w W -> Calls Tryz.prog 77 #[.agg #[.int .i64 (V : Int),.slice a1 nT c1]] W fun e w'=>e = .returned (.int .i64 0) /\ Bw W w'):=by intro W hW;obtain ⟨a2,c2,e2,h2⟩:=hcall W hW;rw [e1] at e2;simp only [Pv.mk.injEq,true_and] at e2;obtain ⟨rfl,rfl⟩:=e2;rw [vk] at h2;exact h2
    rw [vk] at cn;have Hx : Hid (bo wr b (o + k * 2) [.int .i64 (V : Int),.slice a1 nT c1]):=cn;clear cn hcall hab e1 vk;have Hb : Hid (Bw wr wr):=Below.refl _ _;obtain ⟨x0,x1⟩:=Hx.out.w2;have P0:=x0;have P1:=x1;obtain ⟨W3,ol⟩ : ∃ W3,(wr.alloc (.cells #[.int .i64 (V : Int),.slice a1 nT c1] 57)) = W3:=⟨_,rfl⟩;have ae : Bw wr W3:=by rw [<- ol];exact zl
    clear x0 x1;replace Hx:=kW Hx ae;have Hv : Hid (ai W3 (wr.heap.size) 57 [.int .i64 (V : Int),.slice a1 nT c1]):=by rw [<- ol];exact ai.newAt _ _ _ zm
    obtain ⟨x0,x1⟩:=Hx.out.w2;obtain ⟨v0,v1⟩:=Hv.out.c2;replace Hb:=au Hb ae;clear ae;go_wp2_with fail;refine (aeA.out _ (aI dK.out Hb.out)).mono ?_;rintro e w4 ⟨rfl,ae⟩;clear x0 x1 v0 v1;replace Hx:=kW Hx ae;replace Hv:=kB Hv ae;obtain ⟨x0,x1⟩:=Hx.out.w2;obtain ⟨v0,v1⟩:=Hv.out.c2;replace Hb:=au Hb ae;clear ae;go_wp2;go_roundw;case rel=>exact ⟨k + 1,by omega,by go_num,aI aQ.out Hb.out⟩
    case measure=>simp [intOf];omega
  . obtain rfl : k = L:=by omega
    have Hb:=dK;have Hl:=hl;have l0:=Hl.out.c1;go_wp2_with fail;refine (Gj.out _ _ Hb.out l0).mono ?_;rintro e w6 ⟨rfl,ae⟩;clear l0;replace Hl:=kB Hl ae;have l0:=Hl.out.c1;replace Hb:=au Hb ae;clear ae;go_wp2;go_ret;exact ⟨rfl,Hb.out⟩
def gM (Ts : Nat -> List aJ) : Nat -> List aJ
 | 0=>[]
 | k + 1=>fJ (gM Ts k) (Ts k)
def kw (Ts : Nat -> List aJ) : Nat -> List aJ
 | 0=>[]
 | k + 1=>kw Ts k ++ Ts k
theorem aca (Ts : Nat -> List aJ) (k : Nat) (m : List UInt8) : bO (gM Ts k) m = bO (kw Ts k) m:=by
 induction k with
 | zero=>rfl
 | succ k ih=>unfold gM kw;rw [PQ,uJ,ih]
theorem Vh (Ts : Nat -> List aJ) (k : Nat) : (gM Ts k).length <= (kw Ts k).length:=by
 induction k with
 | zero=>exact Nat.le_refl _
 | succ k ih=>unfold gM kw;have:=Vg (gM Ts k) (Ts k);rw [List.length_append];omega
theorem PK (Ts : Nat -> List aJ) (j k : Nat) (h : j <= k) : (kw Ts j).length <= (kw Ts k).length:=by
 induction k with
 | zero => obtain rfl : j = 0:=by omega
           exact Nat.le_refl _
 | succ k ih =>
   by_cases e : j = k + 1
   . subst e;exact Nat.le_refl _
   . have:=ih zo;rw [show kw Ts (k + 1) = kw Ts k ++ Ts k from rfl,List.length_append];omega
theorem agP {B : Nat} (Ts : Nat -> List aJ) (k : Nat) (h : ∀ j,j < k -> ∀ t ∈ Ts j,Fit B t.2) (hB : B + k <= 268435456) : ∀ t ∈ gM Ts k,Fit (B + k) t.2:=by
 induction k with
 | zero=>intro t ht;cases ht
 | succ k ih =>unfold gM;have:=Vf (B:=B + k) (gM Ts k) (Ts k) (ih (fun j hj=>h j zo) zo) (fun t ht=>(h k zo t ht).mono zo) zo;exact this
theorem aaw (V B : Nat) (b o L cap : Nat) (ps : List Pv) (Ts : Nat -> List aJ) (C : List aJ) (w : World) (hL : ps.length = L) (DY : 0 < L) (Jy : L <= 65536) (ha : At w (some ⟨b,o,none⟩) (ps.flatMap ke)) (hp : gQ w V B ps Ts) (hn : (kw Ts L).length <= 4096) (hB : B + L + 8192 <= 268435456) (hT : az w) (hC : bH (kw Ts L) = C) :
 Calls Tryz.prog 60 #[.slice (some ⟨b,o,none⟩) L cap] w fun ex w'=>∃ a' c',ex = .returned (.tuple #[.agg #[.int .i64 (V : Int),.slice a' C.length c'],.int .i64 0]) /\ cm w' a' c' C /\ Bw w w':=by
 have zZ:=enters_of Tryz.func100 zk rfl;have zY:=enters_of Tryz.func101 zk rfl;have hlk:=fun W (hW : Bw w W)=>afZ V B b o L cap ps Ts W hL DY Jy (ha.below hW) (hp.below hW) (hT.below hW);have QJ : bH (gM Ts L) = C:=by rw [<- hC];exact wV (aca Ts L)
 have vg : (gM Ts L).length <= 4096:=Nat.le_trans (Vh Ts L) hn;have Kh : ∀ j,j < L -> ∀ t ∈ Ts j,Fit B t.2:=fun j hj=>by obtain ⟨a,c,_,_,h⟩:=hp j zo;exact h.2
 have ve:=fun k (hk : k <= L)=>agP (B:=B) Ts k (fun j hj=>Kh j zo) zo;have hcl:=fun w0 W v (hw0 : Bw w w0) (hb0 : Bw w0 W) (ho : W.ownsRow w0.heap.size 107 4 v (gM Ts L).length ((gM Ts L).flatMap aL))=>IJ (V : Int) v _ (gM Ts L) C (B + L) w0 W hb0 rfl vg ho (ve L (Nat.le_refl _)) zo (hT.below hw0) QJ;obtain ⟨a0,c0,e0,_,_⟩:=hp 0 zo;obtain ⟨b',o',hab,cn⟩:=ha.anH 0 zo e0;obtain ⟨rfl,rfl⟩ : b = b' /\ o = o':=by simp at hab;exact hab
 rw [Nat.zero_mul,Nat.add_zero] at cn;have Kl:=vC L cap 0 0 (rfl : (some ⟨b,o,none⟩ : Option Addr) = _) DY rfl;rw [Nat.zero_mul,Nat.add_zero] at Kl;obtain ⟨n0,hn0⟩ : ∃ n0,(Ts 0).length = n0:=⟨_,rfl⟩;rw [hn0] at cn;have hlb : b < w.heap.size:=World.block_lt_of_cell? w _ cn.w2.1;have YK:=ah hlk;have gq:=ah hcl;have YR:=ah ve;have Hp:=ah hp;have Ha:=ah ha;have HT:=ah hT;have HL:=ah hL;have Gs:=ah zZ;have Gr:=ah zY;have yP:=ah Kh;have Hw:=ah cn;have yX:=ah Kl
 have lK : Hid (∀ k,k < L -> (gM Ts k).length <= 4096 /\ (Ts k).length <= 4096):=fun k hk=>⟨Nat.le_trans (Nat.le_trans (Vh Ts k) (PK Ts k L zo)) hn,by
  have h1:=PK Ts (k + 1) L zo
  rw [show kw Ts (k + 1) = kw Ts k ++ Ts k from rfl,List.length_append] at h1;omega⟩
 clear hlk hcl ve hp ha hT hL zZ zY Kh cn Kl hC QJ hn vg hab e0 hn0;have Hb : Hid (Bw w w):=Below.refl _ _;go_enter Tryz.func60,Tryz.ntmps60;go_wp2_with fail;obtain ⟨R,hR⟩ : ∃ R : World -> Prop,(fun W=>ai W (w.heap.size) 57 [.int .i64 0,.slice none 0 0] /\ Bw w W) = R:=⟨_,rfl⟩;first | refine bE R ?hR ?_ | refine bC R ?hR ?_
 case hR=>subst hR;exact ⟨(ai.newAt w _ _ (b:=w.heap.size) rfl),zl⟩
 subst hR;rintro W ⟨qr,ae⟩;have Hr:=ah qr;clear qr;obtain ⟨r0,aj,r1,ak⟩:=Hr.out.g2;replace Hb:=au Hb ae;clear ae;go_wp2_with fail;refine (YK.out _ Hb.out).mono ?_;rintro e w1 ⟨rfl,ae⟩;clear r0 aj r1 ak;replace Hr:=kB Hr ae;obtain ⟨r0,aj,r1,ak⟩:=Hr.out.g2;replace Hb:=au Hb ae;clear ae;have jh:=Hr;have df:=Hb;go_wp2_with fail;go_loopw [5,16] (fun s5 x wr=>∃ (k : Nat) (v : Value),k <= L /\ x = .int .i64 (k : Int) /\ v = s5 /\ wr.ownsRow w1.heap.size 107 4 v (gM Ts k).length ((gM Ts k).flatMap aL) /\ Bw w1 wr) (fun _ x _=>L - (intOf x).toNat);case atStart=>exact ⟨0,_,Nat.zero_le _,rfl,rfl,World.ownsRow_nil _ _ _ _,Below.refl _ _⟩
 case round=>
  clear r0 aj r1 ak Hr Hb;obtain ⟨k,v,hk,rfl,rfl,ho,pb⟩:=hrel;have dK:=aI df.out pb;have yl:=df.out.size;have gV:=pb.size;by_cases hlt : k < L
  . have hk2 : k < ps.length:=by rw [HL.out];exact hlt
    obtain ⟨a1,c1,e1,hpl,hft⟩:=Hp.out k hk2;obtain ⟨b',o',hab,cn⟩:=(Ha.out.below dK).anH k hk2 e1;obtain ⟨rfl,rfl⟩ : b = b' /\ o = o':=by simp at hab;exact hab
    have bD:=vC L cap k (k : Int) (rfl : (some ⟨b,o,none⟩ : Option Addr) = _) hlt rfl;obtain ⟨av,cv,rfl,sJ,_⟩:=dG ho;have AY:=tT ho;have AJ:=lK.out k hlt;have Su:=YR.out k zo;have Ss:=yP.out k hlt;have hsk:=hpl.2.1;have Hm : Hid (∀ W,Bw wr W -> Calls Tryz.prog 99 #[.slice av (gM Ts k).length cv,.slice a1 (Ts k).length c1,.func (.func 100) #[] #[],.func (.func 101) #[] #[]] W fun e w'=>∃ v',e = .returned v' /\ w'.ownsRow w1.heap.size 107 4 v' (gM Ts (k + 1)).length ((gM Ts (k + 1)).flatMap aL) /\ Bw W w'):=by intro W hW;refine (UX av _ cv (gM Ts k) a1 _ c1 (Ts k) (B + L) W rfl rfl AY hsk zo zo (sJ.below hW) (hpl.1.below (aI dK hW)) (fun t ht=>(Su t ht).mono zo) (fun t ht=>(Ss t ht).mono zo) zo (HT.out.below (aI dK hW))).mono ?_;rintro e w' ⟨v',rfl,h1,h2⟩;exact ⟨v',rfl,ny h1 (by have:=hW.size;omega),h2⟩
    obtain ⟨nv,pF⟩ : ∃ nv,(gM Ts k).length = nv:=⟨_,rfl⟩;obtain ⟨nT,vk⟩ : ∃ nT,(Ts k).length = nT:=⟨_,rfl⟩;rw [pF,vk] at Hm;rw [vk] at cn;have Hx : Hid (bo wr b (o + k * 2) [.int .i64 (V : Int),.slice a1 nT c1]):=cn;have aQ:=ah pb;rw [pF];clear cn hab e1 vk pF hpl hft ho sJ AY AJ Su Ss hsk pb dK;have Hb : Hid (Bw wr wr):=Below.refl _ _;obtain ⟨x0,x1⟩:=Hx.out.w2;have P0:=x0;have P1:=x1;obtain ⟨W3,ol⟩ : ∃ W3,(wr.alloc (.cells #[.int .i64 (V : Int),.slice a1 nT c1] 57)) = W3:=⟨_,rfl⟩;have ae : Bw wr W3:=by rw [<- ol];exact zl
    clear x0 x1;replace Hx:=kW Hx ae;have Hv : Hid (ai W3 (wr.heap.size) 57 [.int .i64 (V : Int),.slice a1 nT c1]):=by rw [<- ol];exact ai.newAt _ _ _ zm
    obtain ⟨x0,x1⟩:=Hx.out.w2;obtain ⟨v0,v1⟩:=Hv.out.c2;replace Hb:=au Hb ae;clear ae;have Je:=Gs.out;have Dz:=Gr.out;go_wp2_with fail;refine (Hm.out _ Hb.out).mono ?_;rintro e w4 ⟨v',rfl,Tj,hb4⟩;have dc:=aI aQ.out (aI Hb.out hb4);have YZ:=ah Tj;have eW:=ah dc;clear Je Dz Tj dc hb4;go_wp2;go_roundw;case rel=>exact ⟨k + 1,v',by omega,by go_num,rfl,YZ.out,eW.out⟩
    case measure=>simp [intOf];omega
  . obtain rfl : k = L:=by omega
    obtain ⟨av,cv,rfl,_,_⟩:=dG ho;have Hx:=ah (Hw.out.below dK);have Hb : Hid (Bw w wr):=dK;have cB:=ah ho;have aQ:=ah pb;have Hr:=ah (jh.out.below pb);have bD:=yX.out;clear ho pb dK;obtain ⟨x0,x1⟩:=Hx.out.w2;obtain ⟨r0,aj,r1,ak⟩:=Hr.out.g2;have ZZ : Hid (bo w1 b o [.int .i64 (V : Int),.slice a0 n0 c0]):=Hw.out.below df.out;go_wp2_with fail;refine (gq.out w1 _ _ df.out aQ.out cB.out).mono ?_;rintro e w6 ⟨a2,d2,rfl,dO,ae⟩;clear x0 x1 r0 aj r1 ak;replace Hx:=ah (ZZ.out.below ae);replace Hr:=ah (jh.out.below ae);obtain ⟨x0,x1⟩:=Hx.out.w2;obtain ⟨r0,aj,r1,ak⟩:=Hr.out.g2;replace Hb:=ah (aI df.out ae);clear ae;go_wp2;refine wT (Hr.out) dO Hb.out zo ?_;intro w9 mh gj jQ;obtain ⟨q0,q1⟩:=mh.c2;exact bodyPost_ret (v:=.tuple #[.agg #[.int .i64 (V : Int),.slice a2 C.length d2],.int .i64 0]) (by simp [results,Tryz.results60,go_sem,q0,q1]) rfl ⟨_,_,rfl,Bt gj,jQ⟩
end Go.Proofs.YtdaadlblknpipaaGreatDoor
