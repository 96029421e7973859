/- The chapter's examples: awake answers true. -/
import Derived.Test.YtidjljldhdckiaaGreatDoorJLawA
namespace Go.Proofs.YtidjljldhdckiaaGreatDoor
open Go.RowKit
attribute [local go_sem ↓] Go.wp_at_zero Go.wp_at_succ

set_option maxHeartbeats 8000000 in
set_option maxRecDepth 100000 in
theorem awake_any (w : World) (hT : Tab w) : Calls Tryz.prog 6 #[] w fun e w' => e = .returned (.bool true) ∧ Below w.heap.size w w' := by
  have HT0 := Lib.hid hT; clear hT
  have Hb : Hid (Below w.heap.size w w) := Below.refl _ _
  go_enter Tryz.func6, Tryz.ntmps6
  go_wp2_with fail
  first | refine wp_world (fun W => Blk W (w.heap.size) 2 [.int .i64 0, .int .i64 4, .int .i64 8] ∧ Below w.heap.size w W) ?hR ?_ | refine calls_world (fun W => Blk W (w.heap.size) 2 [.int .i64 0, .int .i64 4, .int .i64 8] ∧ Below w.heap.size w W) ?hR ?_
  case hR => exact ⟨(Blk.newAt w _ _ (b := w.heap.size) rfl), ((Below.refl _ _).alloc (Nat.le_refl _) _)⟩
  rintro W ⟨qs0, hbn⟩
  have Hs0 := Lib.hid qs0; clear qs0
  have s00 : W.cell? ⟨w.heap.size, 0, none⟩ = some (.int .i64 0) := Hs0.out.cell 0
  have s01 : W.cell? ⟨w.heap.size, 1, none⟩ = some (.int .i64 4) := Hs0.out.cell 1
  have s02 : W.cell? ⟨w.heap.size, 2, none⟩ = some (.int .i64 8) := Hs0.out.cell 2
  replace Hb := Lib.hid (bnext Hb.out hbn); clear hbn
  go_wp2_with fail
  refine (aw_of 2 1 _ [0, 4, 8] _ rfl 3 rfl (by decide) (by decide) _ Hs0.out).mono ?_
  rintro e w1 ⟨a0, cap0, rfl, hat, hbn⟩
  clear s00 s01 s02
  replace Hs0 := Lib.hid (Hs0.out.below hbn)
  have s00 : w1.cell? ⟨w.heap.size, 0, none⟩ = some (.int .i64 0) := Hs0.out.cell 0
  have s01 : w1.cell? ⟨w.heap.size, 1, none⟩ = some (.int .i64 4) := Hs0.out.cell 1
  have s02 : w1.cell? ⟨w.heap.size, 2, none⟩ = some (.int .i64 8) := Hs0.out.cell 2
  replace Hb := Lib.hid (bnext Hb.out hbn); clear hbn
  clear s00 s01 s02
  clear Hs0
  have HA : Hid (At w1 a0 (aw [0, 4, 8])) := hat
  clear hat
  have HT : Hid (Tab w1) := HT0.out.below Hb.out
  go_wp2_with fail
  first | refine wp_world (fun W1 => Blk W1 (w1.heap.size) 24 [.int .i64 2, .int .i64 1, .slice a0 3 cap0] ∧ Below w1.heap.size w1 W1) ?hR ?_ | refine calls_world (fun W1 => Blk W1 (w1.heap.size) 24 [.int .i64 2, .int .i64 1, .slice a0 3 cap0] ∧ Below w1.heap.size w1 W1) ?hR ?_
  case hR => exact ⟨(Blk.newAt w1 _ _ (b := w1.heap.size) rfl), ((Below.refl _ _).alloc (Nat.le_refl _) _)⟩
  rintro W1 ⟨qf, hbn⟩
  have Hf := Lib.hid qf; clear qf
  replace HA := Lib.hid (HA.out.below hbn)
  replace HT := Lib.hid (HT.out.below hbn)
  have f0 : W1.cell? ⟨w1.heap.size, 0, none⟩ = some (.int .i64 2) := Hf.out.cell 0
  have f1 : W1.cell? ⟨w1.heap.size, 1, none⟩ = some (.int .i64 1) := Hf.out.cell 1
  have f2 : W1.cell? ⟨w1.heap.size, 2, none⟩ = some (.slice a0 3 cap0) := Hf.out.cell 2
  replace Hb := Lib.hid (bnext Hb.out hbn); clear hbn
  go_wp2_with fail
  refine (aw_split a0 cap0 _ HA.out HT.out).mono ?_
  rintro e w2 ⟨r, s, rfl, hat, hat2, hbn⟩
  clear f0 f1 f2
  replace HA := Lib.hid (HA.out.below hbn)
  replace HT := Lib.hid (HT.out.below hbn)
  replace Hf := Lib.hid (Hf.out.below hbn)
  have f0 : w2.cell? ⟨w1.heap.size, 0, none⟩ = some (.int .i64 2) := Hf.out.cell 0
  have f1 : w2.cell? ⟨w1.heap.size, 1, none⟩ = some (.int .i64 1) := Hf.out.cell 1
  have f2 : w2.cell? ⟨w1.heap.size, 2, none⟩ = some (.slice a0 3 cap0) := Hf.out.cell 2
  replace Hb := Lib.hid (bnext Hb.out hbn); clear hbn
  have HA1 : Hid (At w2 (some ⟨r, 0, none⟩) (aw [0, 4, 6])) := hat
  have HA2 : Hid (At w2 (some ⟨s, 0, none⟩) (aw [0, 6, 8])) := hat2
  clear hat hat2
  have lz_f_W2 : w1.heap.size < w2.heap.size := Hf.out.lt
  go_wp2_with fail
  first | refine wp_world (fun W2 => Blk W2 (w2.heap.size) 24 [.int .i64 2, .int .i64 1, .slice (some ⟨r, 0, none⟩) 3 3] ∧ Blk W2 (w2.heap.size + 1) 24 [.int .i64 2, .int .i64 1, .slice (some ⟨s, 0, none⟩) 3 3] ∧ Below w2.heap.size w2 W2) ?hR ?_ | refine calls_world (fun W2 => Blk W2 (w2.heap.size) 24 [.int .i64 2, .int .i64 1, .slice (some ⟨r, 0, none⟩) 3 3] ∧ Blk W2 (w2.heap.size + 1) 24 [.int .i64 2, .int .i64 1, .slice (some ⟨s, 0, none⟩) 3 3] ∧ Below w2.heap.size w2 W2) ?hR ?_
  case hR => exact ⟨((Blk.newAt w2 _ _ (b := w2.heap.size) rfl).alloc _), (Blk.newAt (w2.alloc _) _ _ (b := w2.heap.size + 1) (by simp)), (((Below.refl _ _).alloc (Nat.le_refl _) _).alloc (by simp <;> omega) _)⟩
  rintro W2 ⟨qp, qq, hbn⟩
  have Hp := Lib.hid qp; clear qp
  have Hq := Lib.hid qq; clear qq
  replace HA := Lib.hid (HA.out.below hbn)
  replace HT := Lib.hid (HT.out.below hbn)
  clear f0 f1 f2
  replace Hf := Lib.hid (Hf.out.below hbn)
  have f0 : W2.cell? ⟨w1.heap.size, 0, none⟩ = some (.int .i64 2) := Hf.out.cell 0
  have f1 : W2.cell? ⟨w1.heap.size, 1, none⟩ = some (.int .i64 1) := Hf.out.cell 1
  have f2 : W2.cell? ⟨w1.heap.size, 2, none⟩ = some (.slice a0 3 cap0) := Hf.out.cell 2
  replace HA1 := Lib.hid (HA1.out.below hbn)
  replace HA2 := Lib.hid (HA2.out.below hbn)
  have p0 : W2.cell? ⟨w2.heap.size, 0, none⟩ = some (.int .i64 2) := Hp.out.cell 0
  have p1 : W2.cell? ⟨w2.heap.size, 1, none⟩ = some (.int .i64 1) := Hp.out.cell 1
  have p2 : W2.cell? ⟨w2.heap.size, 2, none⟩ = some (.slice (some ⟨r, 0, none⟩) 3 3) := Hp.out.cell 2
  have q0 : W2.cell? ⟨w2.heap.size + 1, 0, none⟩ = some (.int .i64 2) := Hq.out.cell 0
  have q1 : W2.cell? ⟨w2.heap.size + 1, 1, none⟩ = some (.int .i64 1) := Hq.out.cell 1
  have q2 : W2.cell? ⟨w2.heap.size + 1, 2, none⟩ = some (.slice (some ⟨s, 0, none⟩) 3 3) := Hq.out.cell 2
  replace Hb := Lib.hid (bnext Hb.out hbn); clear hbn
  go_wp2_with fail
  refine (aw_bad a0 cap0 0 (by omega) _).mono ?_
  rintro e w3 ⟨rfl, hbn⟩
  clear f0 f1 f2
  clear p0 p1 p2
  clear q0 q1 q2
  replace HA := Lib.hid (HA.out.below hbn)
  replace HT := Lib.hid (HT.out.below hbn)
  replace Hf := Lib.hid (Hf.out.below hbn)
  replace HA1 := Lib.hid (HA1.out.below hbn)
  replace HA2 := Lib.hid (HA2.out.below hbn)
  replace Hp := Lib.hid (Hp.out.below hbn)
  replace Hq := Lib.hid (Hq.out.below hbn)
  have f0 : w3.cell? ⟨w1.heap.size, 0, none⟩ = some (.int .i64 2) := Hf.out.cell 0
  have f1 : w3.cell? ⟨w1.heap.size, 1, none⟩ = some (.int .i64 1) := Hf.out.cell 1
  have f2 : w3.cell? ⟨w1.heap.size, 2, none⟩ = some (.slice a0 3 cap0) := Hf.out.cell 2
  have p0 : w3.cell? ⟨w2.heap.size, 0, none⟩ = some (.int .i64 2) := Hp.out.cell 0
  have p1 : w3.cell? ⟨w2.heap.size, 1, none⟩ = some (.int .i64 1) := Hp.out.cell 1
  have p2 : w3.cell? ⟨w2.heap.size, 2, none⟩ = some (.slice (some ⟨r, 0, none⟩) 3 3) := Hp.out.cell 2
  have q0 : w3.cell? ⟨w2.heap.size + 1, 0, none⟩ = some (.int .i64 2) := Hq.out.cell 0
  have q1 : w3.cell? ⟨w2.heap.size + 1, 1, none⟩ = some (.int .i64 1) := Hq.out.cell 1
  have q2 : w3.cell? ⟨w2.heap.size + 1, 2, none⟩ = some (.slice (some ⟨s, 0, none⟩) 3 3) := Hq.out.cell 2
  replace Hb := Lib.hid (bnext Hb.out hbn); clear hbn
  have lz_f_W3 : w1.heap.size < w3.heap.size := Hf.out.lt
  have lz_p_W3 : w2.heap.size < w3.heap.size := Hp.out.lt
  have lz_q_W3 : w2.heap.size + 1 < w3.heap.size := Hq.out.lt
  go_wp2_with fail
  first | refine wp_world (fun W3 => Below w3.heap.size w3 W3) ?hR ?_ | refine calls_world (fun W3 => Below w3.heap.size w3 W3) ?hR ?_
  case hR => (repeat first | exact Below.refl _ _ | (refine Below.setCell ?_ (by first | (dsimp only; omega) | (show _ ≤ _; omega) | (simp <;> omega)) _) | (refine Below.alloc ?_ (by simp <;> omega) _) | refine Below.drew ?_)
  rintro W3 hbn
  clear f0 f1 f2
  clear p0 p1 p2
  clear q0 q1 q2
  replace HA := Lib.hid (HA.out.below hbn)
  replace HT := Lib.hid (HT.out.below hbn)
  replace Hf := Lib.hid (Hf.out.below hbn)
  replace HA1 := Lib.hid (HA1.out.below hbn)
  replace HA2 := Lib.hid (HA2.out.below hbn)
  replace Hp := Lib.hid (Hp.out.below hbn)
  replace Hq := Lib.hid (Hq.out.below hbn)
  have f0 : W3.cell? ⟨w1.heap.size, 0, none⟩ = some (.int .i64 2) := Hf.out.cell 0
  have f1 : W3.cell? ⟨w1.heap.size, 1, none⟩ = some (.int .i64 1) := Hf.out.cell 1
  have f2 : W3.cell? ⟨w1.heap.size, 2, none⟩ = some (.slice a0 3 cap0) := Hf.out.cell 2
  have p0 : W3.cell? ⟨w2.heap.size, 0, none⟩ = some (.int .i64 2) := Hp.out.cell 0
  have p1 : W3.cell? ⟨w2.heap.size, 1, none⟩ = some (.int .i64 1) := Hp.out.cell 1
  have p2 : W3.cell? ⟨w2.heap.size, 2, none⟩ = some (.slice (some ⟨r, 0, none⟩) 3 3) := Hp.out.cell 2
  have q0 : W3.cell? ⟨w2.heap.size + 1, 0, none⟩ = some (.int .i64 2) := Hq.out.cell 0
  have q1 : W3.cell? ⟨w2.heap.size + 1, 1, none⟩ = some (.int .i64 1) := Hq.out.cell 1
  have q2 : W3.cell? ⟨w2.heap.size + 1, 2, none⟩ = some (.slice (some ⟨s, 0, none⟩) 3 3) := Hq.out.cell 2
  replace Hb := Lib.hid (bnext Hb.out hbn); clear hbn
  go_wp2_with fail
  refine (aw_bad a0 cap0 3 (by omega) _).mono ?_
  rintro e w4 ⟨rfl, hbn⟩
  clear f0 f1 f2
  clear p0 p1 p2
  clear q0 q1 q2
  replace HA := Lib.hid (HA.out.below hbn)
  replace HT := Lib.hid (HT.out.below hbn)
  replace Hf := Lib.hid (Hf.out.below hbn)
  replace HA1 := Lib.hid (HA1.out.below hbn)
  replace HA2 := Lib.hid (HA2.out.below hbn)
  replace Hp := Lib.hid (Hp.out.below hbn)
  replace Hq := Lib.hid (Hq.out.below hbn)
  have f0 : w4.cell? ⟨w1.heap.size, 0, none⟩ = some (.int .i64 2) := Hf.out.cell 0
  have f1 : w4.cell? ⟨w1.heap.size, 1, none⟩ = some (.int .i64 1) := Hf.out.cell 1
  have f2 : w4.cell? ⟨w1.heap.size, 2, none⟩ = some (.slice a0 3 cap0) := Hf.out.cell 2
  have p0 : w4.cell? ⟨w2.heap.size, 0, none⟩ = some (.int .i64 2) := Hp.out.cell 0
  have p1 : w4.cell? ⟨w2.heap.size, 1, none⟩ = some (.int .i64 1) := Hp.out.cell 1
  have p2 : w4.cell? ⟨w2.heap.size, 2, none⟩ = some (.slice (some ⟨r, 0, none⟩) 3 3) := Hp.out.cell 2
  have q0 : w4.cell? ⟨w2.heap.size + 1, 0, none⟩ = some (.int .i64 2) := Hq.out.cell 0
  have q1 : w4.cell? ⟨w2.heap.size + 1, 1, none⟩ = some (.int .i64 1) := Hq.out.cell 1
  have q2 : w4.cell? ⟨w2.heap.size + 1, 2, none⟩ = some (.slice (some ⟨s, 0, none⟩) 3 3) := Hq.out.cell 2
  replace Hb := Lib.hid (bnext Hb.out hbn); clear hbn
  have lz_f_W4 : w1.heap.size < w4.heap.size := Hf.out.lt
  have lz_p_W4 : w2.heap.size < w4.heap.size := Hp.out.lt
  have lz_q_W4 : w2.heap.size + 1 < w4.heap.size := Hq.out.lt
  go_wp2_with fail
  first | refine wp_world (fun W4 => Below w4.heap.size w4 W4) ?hR ?_ | refine calls_world (fun W4 => Below w4.heap.size w4 W4) ?hR ?_
  case hR => (repeat first | exact Below.refl _ _ | (refine Below.setCell ?_ (by first | (dsimp only; omega) | (show _ ≤ _; omega) | (simp <;> omega)) _) | (refine Below.alloc ?_ (by simp <;> omega) _) | refine Below.drew ?_)
  rintro W4 hbn
  clear f0 f1 f2
  clear p0 p1 p2
  clear q0 q1 q2
  replace HA := Lib.hid (HA.out.below hbn)
  replace HT := Lib.hid (HT.out.below hbn)
  replace Hf := Lib.hid (Hf.out.below hbn)
  replace HA1 := Lib.hid (HA1.out.below hbn)
  replace HA2 := Lib.hid (HA2.out.below hbn)
  replace Hp := Lib.hid (Hp.out.below hbn)
  replace Hq := Lib.hid (Hq.out.below hbn)
  have f0 : W4.cell? ⟨w1.heap.size, 0, none⟩ = some (.int .i64 2) := Hf.out.cell 0
  have f1 : W4.cell? ⟨w1.heap.size, 1, none⟩ = some (.int .i64 1) := Hf.out.cell 1
  have f2 : W4.cell? ⟨w1.heap.size, 2, none⟩ = some (.slice a0 3 cap0) := Hf.out.cell 2
  have p0 : W4.cell? ⟨w2.heap.size, 0, none⟩ = some (.int .i64 2) := Hp.out.cell 0
  have p1 : W4.cell? ⟨w2.heap.size, 1, none⟩ = some (.int .i64 1) := Hp.out.cell 1
  have p2 : W4.cell? ⟨w2.heap.size, 2, none⟩ = some (.slice (some ⟨r, 0, none⟩) 3 3) := Hp.out.cell 2
  have q0 : W4.cell? ⟨w2.heap.size + 1, 0, none⟩ = some (.int .i64 2) := Hq.out.cell 0
  have q1 : W4.cell? ⟨w2.heap.size + 1, 1, none⟩ = some (.int .i64 1) := Hq.out.cell 1
  have q2 : W4.cell? ⟨w2.heap.size + 1, 2, none⟩ = some (.slice (some ⟨s, 0, none⟩) 3 3) := Hq.out.cell 2
  replace Hb := Lib.hid (bnext Hb.out hbn); clear hbn
  go_wp2_with fail
  refine (aw_lifts a0 cap0 _ HA.out HT.out).mono ?_
  rintro e w5 ⟨r2, rfl, hat, hbn⟩
  clear f0 f1 f2
  clear p0 p1 p2
  clear q0 q1 q2
  replace HA := Lib.hid (HA.out.below hbn)
  replace HT := Lib.hid (HT.out.below hbn)
  replace Hf := Lib.hid (Hf.out.below hbn)
  replace HA1 := Lib.hid (HA1.out.below hbn)
  replace HA2 := Lib.hid (HA2.out.below hbn)
  replace Hp := Lib.hid (Hp.out.below hbn)
  replace Hq := Lib.hid (Hq.out.below hbn)
  have f0 : w5.cell? ⟨w1.heap.size, 0, none⟩ = some (.int .i64 2) := Hf.out.cell 0
  have f1 : w5.cell? ⟨w1.heap.size, 1, none⟩ = some (.int .i64 1) := Hf.out.cell 1
  have f2 : w5.cell? ⟨w1.heap.size, 2, none⟩ = some (.slice a0 3 cap0) := Hf.out.cell 2
  have p0 : w5.cell? ⟨w2.heap.size, 0, none⟩ = some (.int .i64 2) := Hp.out.cell 0
  have p1 : w5.cell? ⟨w2.heap.size, 1, none⟩ = some (.int .i64 1) := Hp.out.cell 1
  have p2 : w5.cell? ⟨w2.heap.size, 2, none⟩ = some (.slice (some ⟨r, 0, none⟩) 3 3) := Hp.out.cell 2
  have q0 : w5.cell? ⟨w2.heap.size + 1, 0, none⟩ = some (.int .i64 2) := Hq.out.cell 0
  have q1 : w5.cell? ⟨w2.heap.size + 1, 1, none⟩ = some (.int .i64 1) := Hq.out.cell 1
  have q2 : w5.cell? ⟨w2.heap.size + 1, 2, none⟩ = some (.slice (some ⟨s, 0, none⟩) 3 3) := Hq.out.cell 2
  replace Hb := Lib.hid (bnext Hb.out hbn); clear hbn
  have HA3 : Hid (At w5 (some ⟨r2, 0, none⟩) (aw [0, 4, 8, 4, 12, 8])) := hat
  clear hat
  have lz_f_W5 : w1.heap.size < w5.heap.size := Hf.out.lt
  have lz_p_W5 : w2.heap.size < w5.heap.size := Hp.out.lt
  have lz_q_W5 : w2.heap.size + 1 < w5.heap.size := Hq.out.lt
  go_wp2_with fail
  first | refine wp_world (fun W5 => Blk W5 (w5.heap.size) 24 [.int .i64 2, .int .i64 2, .slice (some ⟨r2, 0, none⟩) 6 6] ∧ Below w5.heap.size w5 W5) ?hR ?_ | refine calls_world (fun W5 => Blk W5 (w5.heap.size) 24 [.int .i64 2, .int .i64 2, .slice (some ⟨r2, 0, none⟩) 6 6] ∧ Below w5.heap.size w5 W5) ?hR ?_
  case hR => exact ⟨(Blk.newAt w5 _ _ (b := w5.heap.size) rfl), ((Below.refl _ _).alloc (Nat.le_refl _) _)⟩
  rintro W5 ⟨qc, hbn⟩
  have Hc := Lib.hid qc; clear qc
  replace HA := Lib.hid (HA.out.below hbn)
  replace HT := Lib.hid (HT.out.below hbn)
  clear f0 f1 f2
  replace Hf := Lib.hid (Hf.out.below hbn)
  have f0 : W5.cell? ⟨w1.heap.size, 0, none⟩ = some (.int .i64 2) := Hf.out.cell 0
  have f1 : W5.cell? ⟨w1.heap.size, 1, none⟩ = some (.int .i64 1) := Hf.out.cell 1
  have f2 : W5.cell? ⟨w1.heap.size, 2, none⟩ = some (.slice a0 3 cap0) := Hf.out.cell 2
  replace HA1 := Lib.hid (HA1.out.below hbn)
  replace HA2 := Lib.hid (HA2.out.below hbn)
  clear p0 p1 p2
  replace Hp := Lib.hid (Hp.out.below hbn)
  have p0 : W5.cell? ⟨w2.heap.size, 0, none⟩ = some (.int .i64 2) := Hp.out.cell 0
  have p1 : W5.cell? ⟨w2.heap.size, 1, none⟩ = some (.int .i64 1) := Hp.out.cell 1
  have p2 : W5.cell? ⟨w2.heap.size, 2, none⟩ = some (.slice (some ⟨r, 0, none⟩) 3 3) := Hp.out.cell 2
  clear q0 q1 q2
  replace Hq := Lib.hid (Hq.out.below hbn)
  have q0 : W5.cell? ⟨w2.heap.size + 1, 0, none⟩ = some (.int .i64 2) := Hq.out.cell 0
  have q1 : W5.cell? ⟨w2.heap.size + 1, 1, none⟩ = some (.int .i64 1) := Hq.out.cell 1
  have q2 : W5.cell? ⟨w2.heap.size + 1, 2, none⟩ = some (.slice (some ⟨s, 0, none⟩) 3 3) := Hq.out.cell 2
  replace HA3 := Lib.hid (HA3.out.below hbn)
  have c0 : W5.cell? ⟨w5.heap.size, 0, none⟩ = some (.int .i64 2) := Hc.out.cell 0
  have c1 : W5.cell? ⟨w5.heap.size, 1, none⟩ = some (.int .i64 2) := Hc.out.cell 1
  have c2 : W5.cell? ⟨w5.heap.size, 2, none⟩ = some (.slice (some ⟨r2, 0, none⟩) 6 6) := Hc.out.cell 2
  replace Hb := Lib.hid (bnext Hb.out hbn); clear hbn
  go_wp2_with fail
  refine (aw_faces a0 cap0 _ HA.out HT.out).mono ?_
  rintro e w6 ⟨r3, rfl, hat, hbn⟩
  clear f0 f1 f2
  clear p0 p1 p2
  clear q0 q1 q2
  clear c0 c1 c2
  replace HA := Lib.hid (HA.out.below hbn)
  replace HT := Lib.hid (HT.out.below hbn)
  replace Hf := Lib.hid (Hf.out.below hbn)
  replace HA1 := Lib.hid (HA1.out.below hbn)
  replace HA2 := Lib.hid (HA2.out.below hbn)
  replace Hp := Lib.hid (Hp.out.below hbn)
  replace Hq := Lib.hid (Hq.out.below hbn)
  replace HA3 := Lib.hid (HA3.out.below hbn)
  replace Hc := Lib.hid (Hc.out.below hbn)
  have f0 : w6.cell? ⟨w1.heap.size, 0, none⟩ = some (.int .i64 2) := Hf.out.cell 0
  have f1 : w6.cell? ⟨w1.heap.size, 1, none⟩ = some (.int .i64 1) := Hf.out.cell 1
  have f2 : w6.cell? ⟨w1.heap.size, 2, none⟩ = some (.slice a0 3 cap0) := Hf.out.cell 2
  have p0 : w6.cell? ⟨w2.heap.size, 0, none⟩ = some (.int .i64 2) := Hp.out.cell 0
  have p1 : w6.cell? ⟨w2.heap.size, 1, none⟩ = some (.int .i64 1) := Hp.out.cell 1
  have p2 : w6.cell? ⟨w2.heap.size, 2, none⟩ = some (.slice (some ⟨r, 0, none⟩) 3 3) := Hp.out.cell 2
  have q0 : w6.cell? ⟨w2.heap.size + 1, 0, none⟩ = some (.int .i64 2) := Hq.out.cell 0
  have q1 : w6.cell? ⟨w2.heap.size + 1, 1, none⟩ = some (.int .i64 1) := Hq.out.cell 1
  have q2 : w6.cell? ⟨w2.heap.size + 1, 2, none⟩ = some (.slice (some ⟨s, 0, none⟩) 3 3) := Hq.out.cell 2
  have c0 : w6.cell? ⟨w5.heap.size, 0, none⟩ = some (.int .i64 2) := Hc.out.cell 0
  have c1 : w6.cell? ⟨w5.heap.size, 1, none⟩ = some (.int .i64 2) := Hc.out.cell 1
  have c2 : w6.cell? ⟨w5.heap.size, 2, none⟩ = some (.slice (some ⟨r2, 0, none⟩) 6 6) := Hc.out.cell 2
  replace Hb := Lib.hid (bnext Hb.out hbn); clear hbn
  have HA4 : Hid (At w6 (some ⟨r3, 0, none⟩) (aw [4, 8])) := hat
  clear hat
  have lz_f_W6 : w1.heap.size < w6.heap.size := Hf.out.lt
  have lz_p_W6 : w2.heap.size < w6.heap.size := Hp.out.lt
  have lz_q_W6 : w2.heap.size + 1 < w6.heap.size := Hq.out.lt
  have lz_c_W6 : w5.heap.size < w6.heap.size := Hc.out.lt
  go_wp2_with fail
  first | refine wp_world (fun W6 => Blk W6 (w6.heap.size) 24 [.int .i64 1, .int .i64 1, .slice (some ⟨r3, 0, none⟩) 2 2] ∧ Below w6.heap.size w6 W6) ?hR ?_ | refine calls_world (fun W6 => Blk W6 (w6.heap.size) 24 [.int .i64 1, .int .i64 1, .slice (some ⟨r3, 0, none⟩) 2 2] ∧ Below w6.heap.size w6 W6) ?hR ?_
  case hR => exact ⟨(Blk.newAt w6 _ _ (b := w6.heap.size) rfl), ((Below.refl _ _).alloc (Nat.le_refl _) _)⟩
  rintro W6 ⟨qu, hbn⟩
  have Hu := Lib.hid qu; clear qu
  replace HA := Lib.hid (HA.out.below hbn)
  replace HT := Lib.hid (HT.out.below hbn)
  clear f0 f1 f2
  replace Hf := Lib.hid (Hf.out.below hbn)
  have f0 : W6.cell? ⟨w1.heap.size, 0, none⟩ = some (.int .i64 2) := Hf.out.cell 0
  have f1 : W6.cell? ⟨w1.heap.size, 1, none⟩ = some (.int .i64 1) := Hf.out.cell 1
  have f2 : W6.cell? ⟨w1.heap.size, 2, none⟩ = some (.slice a0 3 cap0) := Hf.out.cell 2
  replace HA1 := Lib.hid (HA1.out.below hbn)
  replace HA2 := Lib.hid (HA2.out.below hbn)
  clear p0 p1 p2
  replace Hp := Lib.hid (Hp.out.below hbn)
  have p0 : W6.cell? ⟨w2.heap.size, 0, none⟩ = some (.int .i64 2) := Hp.out.cell 0
  have p1 : W6.cell? ⟨w2.heap.size, 1, none⟩ = some (.int .i64 1) := Hp.out.cell 1
  have p2 : W6.cell? ⟨w2.heap.size, 2, none⟩ = some (.slice (some ⟨r, 0, none⟩) 3 3) := Hp.out.cell 2
  clear q0 q1 q2
  replace Hq := Lib.hid (Hq.out.below hbn)
  have q0 : W6.cell? ⟨w2.heap.size + 1, 0, none⟩ = some (.int .i64 2) := Hq.out.cell 0
  have q1 : W6.cell? ⟨w2.heap.size + 1, 1, none⟩ = some (.int .i64 1) := Hq.out.cell 1
  have q2 : W6.cell? ⟨w2.heap.size + 1, 2, none⟩ = some (.slice (some ⟨s, 0, none⟩) 3 3) := Hq.out.cell 2
  replace HA3 := Lib.hid (HA3.out.below hbn)
  clear c0 c1 c2
  replace Hc := Lib.hid (Hc.out.below hbn)
  have c0 : W6.cell? ⟨w5.heap.size, 0, none⟩ = some (.int .i64 2) := Hc.out.cell 0
  have c1 : W6.cell? ⟨w5.heap.size, 1, none⟩ = some (.int .i64 2) := Hc.out.cell 1
  have c2 : W6.cell? ⟨w5.heap.size, 2, none⟩ = some (.slice (some ⟨r2, 0, none⟩) 6 6) := Hc.out.cell 2
  replace HA4 := Lib.hid (HA4.out.below hbn)
  have u0 : W6.cell? ⟨w6.heap.size, 0, none⟩ = some (.int .i64 1) := Hu.out.cell 0
  have u1 : W6.cell? ⟨w6.heap.size, 1, none⟩ = some (.int .i64 1) := Hu.out.cell 1
  have u2 : W6.cell? ⟨w6.heap.size, 2, none⟩ = some (.slice (some ⟨r3, 0, none⟩) 2 2) := Hu.out.cell 2
  replace Hb := Lib.hid (bnext Hb.out hbn); clear hbn
  go_wp2_with fail
  refine (aw_corners a0 cap0 _ HA.out HT.out).mono ?_
  rintro e w7 ⟨rfl, hbn⟩
  clear f0 f1 f2
  clear p0 p1 p2
  clear q0 q1 q2
  clear c0 c1 c2
  clear u0 u1 u2
  replace HA := Lib.hid (HA.out.below hbn)
  replace HT := Lib.hid (HT.out.below hbn)
  replace Hf := Lib.hid (Hf.out.below hbn)
  replace HA1 := Lib.hid (HA1.out.below hbn)
  replace HA2 := Lib.hid (HA2.out.below hbn)
  replace Hp := Lib.hid (Hp.out.below hbn)
  replace Hq := Lib.hid (Hq.out.below hbn)
  replace HA3 := Lib.hid (HA3.out.below hbn)
  replace Hc := Lib.hid (Hc.out.below hbn)
  replace HA4 := Lib.hid (HA4.out.below hbn)
  replace Hu := Lib.hid (Hu.out.below hbn)
  have f0 : w7.cell? ⟨w1.heap.size, 0, none⟩ = some (.int .i64 2) := Hf.out.cell 0
  have f1 : w7.cell? ⟨w1.heap.size, 1, none⟩ = some (.int .i64 1) := Hf.out.cell 1
  have f2 : w7.cell? ⟨w1.heap.size, 2, none⟩ = some (.slice a0 3 cap0) := Hf.out.cell 2
  have p0 : w7.cell? ⟨w2.heap.size, 0, none⟩ = some (.int .i64 2) := Hp.out.cell 0
  have p1 : w7.cell? ⟨w2.heap.size, 1, none⟩ = some (.int .i64 1) := Hp.out.cell 1
  have p2 : w7.cell? ⟨w2.heap.size, 2, none⟩ = some (.slice (some ⟨r, 0, none⟩) 3 3) := Hp.out.cell 2
  have q0 : w7.cell? ⟨w2.heap.size + 1, 0, none⟩ = some (.int .i64 2) := Hq.out.cell 0
  have q1 : w7.cell? ⟨w2.heap.size + 1, 1, none⟩ = some (.int .i64 1) := Hq.out.cell 1
  have q2 : w7.cell? ⟨w2.heap.size + 1, 2, none⟩ = some (.slice (some ⟨s, 0, none⟩) 3 3) := Hq.out.cell 2
  have c0 : w7.cell? ⟨w5.heap.size, 0, none⟩ = some (.int .i64 2) := Hc.out.cell 0
  have c1 : w7.cell? ⟨w5.heap.size, 1, none⟩ = some (.int .i64 2) := Hc.out.cell 1
  have c2 : w7.cell? ⟨w5.heap.size, 2, none⟩ = some (.slice (some ⟨r2, 0, none⟩) 6 6) := Hc.out.cell 2
  have u0 : w7.cell? ⟨w6.heap.size, 0, none⟩ = some (.int .i64 1) := Hu.out.cell 0
  have u1 : w7.cell? ⟨w6.heap.size, 1, none⟩ = some (.int .i64 1) := Hu.out.cell 1
  have u2 : w7.cell? ⟨w6.heap.size, 2, none⟩ = some (.slice (some ⟨r3, 0, none⟩) 2 2) := Hu.out.cell 2
  replace Hb := Lib.hid (bnext Hb.out hbn); clear hbn
  have lz_f_W7 : w1.heap.size < w7.heap.size := Hf.out.lt
  have lz_p_W7 : w2.heap.size < w7.heap.size := Hp.out.lt
  have lz_q_W7 : w2.heap.size + 1 < w7.heap.size := Hq.out.lt
  have lz_c_W7 : w5.heap.size < w7.heap.size := Hc.out.lt
  have lz_u_W7 : w6.heap.size < w7.heap.size := Hu.out.lt
  go_wp2_with fail
  first | refine wp_world (fun W7 => Blk W7 (w7.heap.size) 36 [.bool (sgnB (dN (dI 8))), .string (bs (nt (dN (dI 8)).natAbs)), .int .i64 (dE (dI 8))] ∧ Below w7.heap.size w7 W7) ?hR ?_ | refine calls_world (fun W7 => Blk W7 (w7.heap.size) 36 [.bool (sgnB (dN (dI 8))), .string (bs (nt (dN (dI 8)).natAbs)), .int .i64 (dE (dI 8))] ∧ Below w7.heap.size w7 W7) ?hR ?_
  case hR => exact ⟨(Blk.newAt w7 _ _ (b := w7.heap.size) rfl), ((Below.refl _ _).alloc (Nat.le_refl _) _)⟩
  rintro W7 ⟨qz, hbn⟩
  have Hz := Lib.hid qz; clear qz
  replace HA := Lib.hid (HA.out.below hbn)
  replace HT := Lib.hid (HT.out.below hbn)
  clear f0 f1 f2
  replace Hf := Lib.hid (Hf.out.below hbn)
  have f0 : W7.cell? ⟨w1.heap.size, 0, none⟩ = some (.int .i64 2) := Hf.out.cell 0
  have f1 : W7.cell? ⟨w1.heap.size, 1, none⟩ = some (.int .i64 1) := Hf.out.cell 1
  have f2 : W7.cell? ⟨w1.heap.size, 2, none⟩ = some (.slice a0 3 cap0) := Hf.out.cell 2
  replace HA1 := Lib.hid (HA1.out.below hbn)
  replace HA2 := Lib.hid (HA2.out.below hbn)
  clear p0 p1 p2
  replace Hp := Lib.hid (Hp.out.below hbn)
  have p0 : W7.cell? ⟨w2.heap.size, 0, none⟩ = some (.int .i64 2) := Hp.out.cell 0
  have p1 : W7.cell? ⟨w2.heap.size, 1, none⟩ = some (.int .i64 1) := Hp.out.cell 1
  have p2 : W7.cell? ⟨w2.heap.size, 2, none⟩ = some (.slice (some ⟨r, 0, none⟩) 3 3) := Hp.out.cell 2
  clear q0 q1 q2
  replace Hq := Lib.hid (Hq.out.below hbn)
  have q0 : W7.cell? ⟨w2.heap.size + 1, 0, none⟩ = some (.int .i64 2) := Hq.out.cell 0
  have q1 : W7.cell? ⟨w2.heap.size + 1, 1, none⟩ = some (.int .i64 1) := Hq.out.cell 1
  have q2 : W7.cell? ⟨w2.heap.size + 1, 2, none⟩ = some (.slice (some ⟨s, 0, none⟩) 3 3) := Hq.out.cell 2
  replace HA3 := Lib.hid (HA3.out.below hbn)
  clear c0 c1 c2
  replace Hc := Lib.hid (Hc.out.below hbn)
  have c0 : W7.cell? ⟨w5.heap.size, 0, none⟩ = some (.int .i64 2) := Hc.out.cell 0
  have c1 : W7.cell? ⟨w5.heap.size, 1, none⟩ = some (.int .i64 2) := Hc.out.cell 1
  have c2 : W7.cell? ⟨w5.heap.size, 2, none⟩ = some (.slice (some ⟨r2, 0, none⟩) 6 6) := Hc.out.cell 2
  replace HA4 := Lib.hid (HA4.out.below hbn)
  clear u0 u1 u2
  replace Hu := Lib.hid (Hu.out.below hbn)
  have u0 : W7.cell? ⟨w6.heap.size, 0, none⟩ = some (.int .i64 1) := Hu.out.cell 0
  have u1 : W7.cell? ⟨w6.heap.size, 1, none⟩ = some (.int .i64 1) := Hu.out.cell 1
  have u2 : W7.cell? ⟨w6.heap.size, 2, none⟩ = some (.slice (some ⟨r3, 0, none⟩) 2 2) := Hu.out.cell 2
  have z0 : W7.cell? ⟨w7.heap.size, 0, none⟩ = some (.bool (sgnB (dN (dI 8)))) := Hz.out.cell 0
  have z1 : W7.cell? ⟨w7.heap.size, 1, none⟩ = some (.string (bs (nt (dN (dI 8)).natAbs))) := Hz.out.cell 1
  have z2 : W7.cell? ⟨w7.heap.size, 2, none⟩ = some (.int .i64 (dE (dI 8))) := Hz.out.cell 2
  replace Hb := Lib.hid (bnext Hb.out hbn); clear hbn
  refine wp_region_plan (fun w' => w'.cell? ⟨w2.heap.size, 0, none⟩ = some (.int .i64 2) ∧ w'.cell? ⟨w2.heap.size, 1, none⟩ = some (.int .i64 1) ∧ w'.cell? ⟨w2.heap.size, 2, none⟩ = some (.slice (some ⟨r, 0, none⟩) 3 3) ∧ w'.cell? ⟨w2.heap.size + 1, 0, none⟩ = some (.int .i64 2) ∧ w'.cell? ⟨w2.heap.size + 1, 1, none⟩ = some (.int .i64 1) ∧ w'.cell? ⟨w2.heap.size + 1, 2, none⟩ = some (.slice (some ⟨s, 0, none⟩) 3 3) ∧ w'.cell? ⟨w5.heap.size, 0, none⟩ = some (.int .i64 2) ∧ w'.cell? ⟨w5.heap.size, 1, none⟩ = some (.int .i64 2) ∧ w'.cell? ⟨w5.heap.size, 2, none⟩ = some (.slice (some ⟨r2, 0, none⟩) 6 6) ∧ w'.cell? ⟨w6.heap.size, 0, none⟩ = some (.int .i64 1) ∧ w'.cell? ⟨w6.heap.size, 1, none⟩ = some (.int .i64 1) ∧ w'.cell? ⟨w6.heap.size, 2, none⟩ = some (.slice (some ⟨r3, 0, none⟩) 2 2) ∧ w'.cell? ⟨w7.heap.size, 0, none⟩ = some (.bool (sgnB (dN (dI 8)))) ∧ w'.cell? ⟨w7.heap.size, 1, none⟩ = some (.string (bs (nt (dN (dI 8)).natAbs))) ∧ w'.cell? ⟨w7.heap.size, 2, none⟩ = some (.int .i64 (dE (dI 8)))) (fun i => Nat.blt i 100000) [(0, true), (1, false), (2, false), (3, false), (4, true), (5, true), (6, false), (7, false), (8, false), (9, true), (10, true), (11, true), (12, true), (13, true), (14, true), (15, true), (16, true), (17, true), (18, true), (19, true), (20, true), (21, true), (22, true), (23, true), (24, false), (25, false), (26, false), (27, true), (28, true), (29, true), (30, true), (31, true), (32, true), (33, true), (34, false), (35, false), (36, false), (37, true), (38, true), (39, true), (40, true), (41, true), (42, true), (43, true), (44, false), (45, true), (46, true), (47, true), (48, true), (49, true), (50, true), (51, true)] (by kernel_rfl) (by kernel_rfl) rfl (by kernel_rfl) (fun o c a v w => by cases o.dst <;> exact id) ⟨p0, p1, p2, q0, q1, q2, c0, c1, c2, u0, u1, u2, z0, z1, z2⟩ ?_
  refine planT rfl rfl (v := ?_) (fun w' hw' => ?_) ?_; rotate_left; focus (obtain ⟨q0, q1, q2, q3, q4, q5, q6, q7, q8, q9, q10, q11, q12, q13, q14⟩ := hw'; go_simp; try with_reducible rfl)
  try simp only [Act.put, List.setIfInBounds_toArray, List.set_cons_zero, List.set_cons_succ]
  refine planF rfl rfl (fun K hK => ?_)
  go_simp
  refine hK _ _ (fun _ => ⟨cell_new p0, cell_new p1, cell_new p2, cell_new q0, cell_new q1, cell_new q2, cell_new c0, cell_new c1, cell_new c2, cell_new u0, cell_new u1, cell_new u2, cell_new z0, cell_new z1, cell_new z2⟩) ?_; clear hK K
  try simp only [Act.put, List.setIfInBounds_toArray, List.set_cons_zero, List.set_cons_succ]
  refine plan_world (fun X1a => Blk X1a (W7.heap.size) 2 [.int .i64 0, .int .i64 4, .int .i64 6] ∧ Below W7.heap.size W7 X1a) (by first | exact ⟨Blk.new _ _ _, (Below.refl _ _).alloc (Nat.le_refl _) _⟩ | exact ⟨Blk.drew (Blk.new _ _ _), ((Below.refl _ _).alloc (Nat.le_refl _) _).drew⟩) ?_
  rintro X1a ⟨ql1, hbn⟩
  clear f0 f1 f2
  clear p0 p1 p2
  clear q0 q1 q2
  clear c0 c1 c2
  clear u0 u1 u2
  clear z0 z1 z2
  have lz_f_X1a : w1.heap.size < W7.heap.size := Hf.out.lt
  have lz_p_X1a : w2.heap.size < W7.heap.size := Hp.out.lt
  have lz_q_X1a : w2.heap.size + 1 < W7.heap.size := Hq.out.lt
  have lz_c_X1a : w5.heap.size < W7.heap.size := Hc.out.lt
  have lz_u_X1a : w6.heap.size < W7.heap.size := Hu.out.lt
  have lz_z_X1a : w7.heap.size < W7.heap.size := Hz.out.lt
  replace HA := Lib.hid (HA.out.below hbn)
  replace HT := Lib.hid (HT.out.below hbn)
  replace Hf := Lib.hid (Hf.out.below hbn)
  replace HA1 := Lib.hid (HA1.out.below hbn)
  replace HA2 := Lib.hid (HA2.out.below hbn)
  replace Hp := Lib.hid (Hp.out.below hbn)
  replace Hq := Lib.hid (Hq.out.below hbn)
  replace HA3 := Lib.hid (HA3.out.below hbn)
  replace Hc := Lib.hid (Hc.out.below hbn)
  replace HA4 := Lib.hid (HA4.out.below hbn)
  replace Hu := Lib.hid (Hu.out.below hbn)
  replace Hz := Lib.hid (Hz.out.below hbn)
  have Hl1 := Lib.hid ql1; clear ql1
  have f0 : X1a.cell? ⟨w1.heap.size, 0, none⟩ = some (.int .i64 2) := Hf.out.cell 0
  have f1 : X1a.cell? ⟨w1.heap.size, 1, none⟩ = some (.int .i64 1) := Hf.out.cell 1
  have f2 : X1a.cell? ⟨w1.heap.size, 2, none⟩ = some (.slice a0 3 cap0) := Hf.out.cell 2
  have p0 : X1a.cell? ⟨w2.heap.size, 0, none⟩ = some (.int .i64 2) := Hp.out.cell 0
  have p1 : X1a.cell? ⟨w2.heap.size, 1, none⟩ = some (.int .i64 1) := Hp.out.cell 1
  have p2 : X1a.cell? ⟨w2.heap.size, 2, none⟩ = some (.slice (some ⟨r, 0, none⟩) 3 3) := Hp.out.cell 2
  have q0 : X1a.cell? ⟨w2.heap.size + 1, 0, none⟩ = some (.int .i64 2) := Hq.out.cell 0
  have q1 : X1a.cell? ⟨w2.heap.size + 1, 1, none⟩ = some (.int .i64 1) := Hq.out.cell 1
  have q2 : X1a.cell? ⟨w2.heap.size + 1, 2, none⟩ = some (.slice (some ⟨s, 0, none⟩) 3 3) := Hq.out.cell 2
  have c0 : X1a.cell? ⟨w5.heap.size, 0, none⟩ = some (.int .i64 2) := Hc.out.cell 0
  have c1 : X1a.cell? ⟨w5.heap.size, 1, none⟩ = some (.int .i64 2) := Hc.out.cell 1
  have c2 : X1a.cell? ⟨w5.heap.size, 2, none⟩ = some (.slice (some ⟨r2, 0, none⟩) 6 6) := Hc.out.cell 2
  have u0 : X1a.cell? ⟨w6.heap.size, 0, none⟩ = some (.int .i64 1) := Hu.out.cell 0
  have u1 : X1a.cell? ⟨w6.heap.size, 1, none⟩ = some (.int .i64 1) := Hu.out.cell 1
  have u2 : X1a.cell? ⟨w6.heap.size, 2, none⟩ = some (.slice (some ⟨r3, 0, none⟩) 2 2) := Hu.out.cell 2
  have z0 : X1a.cell? ⟨w7.heap.size, 0, none⟩ = some (.bool (sgnB (dN (dI 8)))) := Hz.out.cell 0
  have z1 : X1a.cell? ⟨w7.heap.size, 1, none⟩ = some (.string (bs (nt (dN (dI 8)).natAbs))) := Hz.out.cell 1
  have z2 : X1a.cell? ⟨w7.heap.size, 2, none⟩ = some (.int .i64 (dE (dI 8))) := Hz.out.cell 2
  have l10 : X1a.cell? ⟨W7.heap.size, 0, none⟩ = some (.int .i64 0) := Hl1.out.cell 0
  have l11 : X1a.cell? ⟨W7.heap.size, 1, none⟩ = some (.int .i64 4) := Hl1.out.cell 1
  have l12 : X1a.cell? ⟨W7.heap.size, 2, none⟩ = some (.int .i64 6) := Hl1.out.cell 2
  replace Hb := Lib.hid (bnext Hb.out hbn); clear hbn
  refine planF rfl rfl (fun K hK => ?_)
  go_simp
  with_reducible refine (aw_of 2 1 _ [0, 4, 6] _ rfl 3 rfl (by decide) (by decide) _ Hl1.out).mono ?_
  rintro e X1b ⟨ol1, cl1, rfl, hat, hq⟩
  have hbn : Below X1a.heap.size X1a X1b := (by first | exact hq | exact bundrew hq); clear hq
  clear f0 f1 f2
  clear p0 p1 p2
  clear q0 q1 q2
  clear c0 c1 c2
  clear u0 u1 u2
  clear z0 z1 z2
  clear l10 l11 l12
  replace HA := Lib.hid (HA.out.below hbn)
  replace HT := Lib.hid (HT.out.below hbn)
  replace Hf := Lib.hid (Hf.out.below hbn)
  replace HA1 := Lib.hid (HA1.out.below hbn)
  replace HA2 := Lib.hid (HA2.out.below hbn)
  replace Hp := Lib.hid (Hp.out.below hbn)
  replace Hq := Lib.hid (Hq.out.below hbn)
  replace HA3 := Lib.hid (HA3.out.below hbn)
  replace Hc := Lib.hid (Hc.out.below hbn)
  replace HA4 := Lib.hid (HA4.out.below hbn)
  replace Hu := Lib.hid (Hu.out.below hbn)
  replace Hz := Lib.hid (Hz.out.below hbn)
  replace Hl1 := Lib.hid (Hl1.out.below hbn)
  have f0 : X1b.cell? ⟨w1.heap.size, 0, none⟩ = some (.int .i64 2) := Hf.out.cell 0
  have f1 : X1b.cell? ⟨w1.heap.size, 1, none⟩ = some (.int .i64 1) := Hf.out.cell 1
  have f2 : X1b.cell? ⟨w1.heap.size, 2, none⟩ = some (.slice a0 3 cap0) := Hf.out.cell 2
  have p0 : X1b.cell? ⟨w2.heap.size, 0, none⟩ = some (.int .i64 2) := Hp.out.cell 0
  have p1 : X1b.cell? ⟨w2.heap.size, 1, none⟩ = some (.int .i64 1) := Hp.out.cell 1
  have p2 : X1b.cell? ⟨w2.heap.size, 2, none⟩ = some (.slice (some ⟨r, 0, none⟩) 3 3) := Hp.out.cell 2
  have q0 : X1b.cell? ⟨w2.heap.size + 1, 0, none⟩ = some (.int .i64 2) := Hq.out.cell 0
  have q1 : X1b.cell? ⟨w2.heap.size + 1, 1, none⟩ = some (.int .i64 1) := Hq.out.cell 1
  have q2 : X1b.cell? ⟨w2.heap.size + 1, 2, none⟩ = some (.slice (some ⟨s, 0, none⟩) 3 3) := Hq.out.cell 2
  have c0 : X1b.cell? ⟨w5.heap.size, 0, none⟩ = some (.int .i64 2) := Hc.out.cell 0
  have c1 : X1b.cell? ⟨w5.heap.size, 1, none⟩ = some (.int .i64 2) := Hc.out.cell 1
  have c2 : X1b.cell? ⟨w5.heap.size, 2, none⟩ = some (.slice (some ⟨r2, 0, none⟩) 6 6) := Hc.out.cell 2
  have u0 : X1b.cell? ⟨w6.heap.size, 0, none⟩ = some (.int .i64 1) := Hu.out.cell 0
  have u1 : X1b.cell? ⟨w6.heap.size, 1, none⟩ = some (.int .i64 1) := Hu.out.cell 1
  have u2 : X1b.cell? ⟨w6.heap.size, 2, none⟩ = some (.slice (some ⟨r3, 0, none⟩) 2 2) := Hu.out.cell 2
  have z0 : X1b.cell? ⟨w7.heap.size, 0, none⟩ = some (.bool (sgnB (dN (dI 8)))) := Hz.out.cell 0
  have z1 : X1b.cell? ⟨w7.heap.size, 1, none⟩ = some (.string (bs (nt (dN (dI 8)).natAbs))) := Hz.out.cell 1
  have z2 : X1b.cell? ⟨w7.heap.size, 2, none⟩ = some (.int .i64 (dE (dI 8))) := Hz.out.cell 2
  have l10 : X1b.cell? ⟨W7.heap.size, 0, none⟩ = some (.int .i64 0) := Hl1.out.cell 0
  have l11 : X1b.cell? ⟨W7.heap.size, 1, none⟩ = some (.int .i64 4) := Hl1.out.cell 1
  have l12 : X1b.cell? ⟨W7.heap.size, 2, none⟩ = some (.int .i64 6) := Hl1.out.cell 2
  replace Hb := Lib.hid (bnext Hb.out hbn); clear hbn
  refine hK _ _ (fun _ => ⟨p0, p1, p2, q0, q1, q2, c0, c1, c2, u0, u1, u2, z0, z1, z2⟩) ?_; clear hK K
  try simp only [Act.put, List.setIfInBounds_toArray, List.set_cons_zero, List.set_cons_succ]
  refine planF rfl rfl (fun K hK => ?_)
  go_simp
  with_reducible refine (aw_same [0, 4, 6] 2 1 (some ⟨r, 0, none⟩) ol1 3 3 cl1 _ rfl (by decide) HA1.out hat).mono ?_
  rintro e X1c ⟨rfl, hq⟩
  have hbn : Below X1b.heap.size X1b X1c := (by first | exact hq | exact bundrew hq); clear hq
  clear f0 f1 f2
  clear p0 p1 p2
  clear q0 q1 q2
  clear c0 c1 c2
  clear u0 u1 u2
  clear z0 z1 z2
  clear l10 l11 l12
  replace HA := Lib.hid (HA.out.below hbn)
  replace HT := Lib.hid (HT.out.below hbn)
  replace Hf := Lib.hid (Hf.out.below hbn)
  replace HA1 := Lib.hid (HA1.out.below hbn)
  replace HA2 := Lib.hid (HA2.out.below hbn)
  replace Hp := Lib.hid (Hp.out.below hbn)
  replace Hq := Lib.hid (Hq.out.below hbn)
  replace HA3 := Lib.hid (HA3.out.below hbn)
  replace Hc := Lib.hid (Hc.out.below hbn)
  replace HA4 := Lib.hid (HA4.out.below hbn)
  replace Hu := Lib.hid (Hu.out.below hbn)
  replace Hz := Lib.hid (Hz.out.below hbn)
  replace Hl1 := Lib.hid (Hl1.out.below hbn)
  have f0 : X1c.cell? ⟨w1.heap.size, 0, none⟩ = some (.int .i64 2) := Hf.out.cell 0
  have f1 : X1c.cell? ⟨w1.heap.size, 1, none⟩ = some (.int .i64 1) := Hf.out.cell 1
  have f2 : X1c.cell? ⟨w1.heap.size, 2, none⟩ = some (.slice a0 3 cap0) := Hf.out.cell 2
  have p0 : X1c.cell? ⟨w2.heap.size, 0, none⟩ = some (.int .i64 2) := Hp.out.cell 0
  have p1 : X1c.cell? ⟨w2.heap.size, 1, none⟩ = some (.int .i64 1) := Hp.out.cell 1
  have p2 : X1c.cell? ⟨w2.heap.size, 2, none⟩ = some (.slice (some ⟨r, 0, none⟩) 3 3) := Hp.out.cell 2
  have q0 : X1c.cell? ⟨w2.heap.size + 1, 0, none⟩ = some (.int .i64 2) := Hq.out.cell 0
  have q1 : X1c.cell? ⟨w2.heap.size + 1, 1, none⟩ = some (.int .i64 1) := Hq.out.cell 1
  have q2 : X1c.cell? ⟨w2.heap.size + 1, 2, none⟩ = some (.slice (some ⟨s, 0, none⟩) 3 3) := Hq.out.cell 2
  have c0 : X1c.cell? ⟨w5.heap.size, 0, none⟩ = some (.int .i64 2) := Hc.out.cell 0
  have c1 : X1c.cell? ⟨w5.heap.size, 1, none⟩ = some (.int .i64 2) := Hc.out.cell 1
  have c2 : X1c.cell? ⟨w5.heap.size, 2, none⟩ = some (.slice (some ⟨r2, 0, none⟩) 6 6) := Hc.out.cell 2
  have u0 : X1c.cell? ⟨w6.heap.size, 0, none⟩ = some (.int .i64 1) := Hu.out.cell 0
  have u1 : X1c.cell? ⟨w6.heap.size, 1, none⟩ = some (.int .i64 1) := Hu.out.cell 1
  have u2 : X1c.cell? ⟨w6.heap.size, 2, none⟩ = some (.slice (some ⟨r3, 0, none⟩) 2 2) := Hu.out.cell 2
  have z0 : X1c.cell? ⟨w7.heap.size, 0, none⟩ = some (.bool (sgnB (dN (dI 8)))) := Hz.out.cell 0
  have z1 : X1c.cell? ⟨w7.heap.size, 1, none⟩ = some (.string (bs (nt (dN (dI 8)).natAbs))) := Hz.out.cell 1
  have z2 : X1c.cell? ⟨w7.heap.size, 2, none⟩ = some (.int .i64 (dE (dI 8))) := Hz.out.cell 2
  have l10 : X1c.cell? ⟨W7.heap.size, 0, none⟩ = some (.int .i64 0) := Hl1.out.cell 0
  have l11 : X1c.cell? ⟨W7.heap.size, 1, none⟩ = some (.int .i64 4) := Hl1.out.cell 1
  have l12 : X1c.cell? ⟨W7.heap.size, 2, none⟩ = some (.int .i64 6) := Hl1.out.cell 2
  replace Hb := Lib.hid (bnext Hb.out hbn); clear hbn
  refine hK _ _ (fun _ => ⟨p0, p1, p2, q0, q1, q2, c0, c1, c2, u0, u1, u2, z0, z1, z2⟩) ?_; clear hK K
  try simp only [Act.put, List.setIfInBounds_toArray, List.set_cons_zero, List.set_cons_succ]
  refine planT rfl rfl (v := ?_) (fun w' hw' => ?_) ?_; rotate_left; focus (go_simp; try with_reducible rfl)
  try simp only [Act.put, List.setIfInBounds_toArray, List.set_cons_zero, List.set_cons_succ]
  refine planT rfl rfl (v := ?_) (fun w' hw' => ?_) ?_; rotate_left; focus (obtain ⟨q0, q1, q2, q3, q4, q5, q6, q7, q8, q9, q10, q11, q12, q13, q14⟩ := hw'; go_simp; try with_reducible rfl)
  try simp only [Act.put, List.setIfInBounds_toArray, List.set_cons_zero, List.set_cons_succ]
  refine planF rfl rfl (fun K hK => ?_)
  go_simp
  refine hK _ _ (fun _ => ⟨cell_new p0, cell_new p1, cell_new p2, cell_new q0, cell_new q1, cell_new q2, cell_new c0, cell_new c1, cell_new c2, cell_new u0, cell_new u1, cell_new u2, cell_new z0, cell_new z1, cell_new z2⟩) ?_; clear hK K
  try simp only [Act.put, List.setIfInBounds_toArray, List.set_cons_zero, List.set_cons_succ]
  refine plan_world (fun X2a => Blk X2a (X1c.heap.size) 2 [.int .i64 0, .int .i64 6, .int .i64 8] ∧ Below X1c.heap.size X1c X2a) (by first | exact ⟨Blk.new _ _ _, (Below.refl _ _).alloc (Nat.le_refl _) _⟩ | exact ⟨Blk.drew (Blk.new _ _ _), ((Below.refl _ _).alloc (Nat.le_refl _) _).drew⟩) ?_
  rintro X2a ⟨ql2, hbn⟩
  clear f0 f1 f2
  clear p0 p1 p2
  clear q0 q1 q2
  clear c0 c1 c2
  clear u0 u1 u2
  clear z0 z1 z2
  clear l10 l11 l12
  have lz_f_X2a : w1.heap.size < X1c.heap.size := Hf.out.lt
  have lz_p_X2a : w2.heap.size < X1c.heap.size := Hp.out.lt
  have lz_q_X2a : w2.heap.size + 1 < X1c.heap.size := Hq.out.lt
  have lz_c_X2a : w5.heap.size < X1c.heap.size := Hc.out.lt
  have lz_u_X2a : w6.heap.size < X1c.heap.size := Hu.out.lt
  have lz_z_X2a : w7.heap.size < X1c.heap.size := Hz.out.lt
  have lz_l1_X2a : W7.heap.size < X1c.heap.size := Hl1.out.lt
  replace HA := Lib.hid (HA.out.below hbn)
  replace HT := Lib.hid (HT.out.below hbn)
  replace Hf := Lib.hid (Hf.out.below hbn)
  replace HA1 := Lib.hid (HA1.out.below hbn)
  replace HA2 := Lib.hid (HA2.out.below hbn)
  replace Hp := Lib.hid (Hp.out.below hbn)
  replace Hq := Lib.hid (Hq.out.below hbn)
  replace HA3 := Lib.hid (HA3.out.below hbn)
  replace Hc := Lib.hid (Hc.out.below hbn)
  replace HA4 := Lib.hid (HA4.out.below hbn)
  replace Hu := Lib.hid (Hu.out.below hbn)
  replace Hz := Lib.hid (Hz.out.below hbn)
  replace Hl1 := Lib.hid (Hl1.out.below hbn)
  have Hl2 := Lib.hid ql2; clear ql2
  have f0 : X2a.cell? ⟨w1.heap.size, 0, none⟩ = some (.int .i64 2) := Hf.out.cell 0
  have f1 : X2a.cell? ⟨w1.heap.size, 1, none⟩ = some (.int .i64 1) := Hf.out.cell 1
  have f2 : X2a.cell? ⟨w1.heap.size, 2, none⟩ = some (.slice a0 3 cap0) := Hf.out.cell 2
  have p0 : X2a.cell? ⟨w2.heap.size, 0, none⟩ = some (.int .i64 2) := Hp.out.cell 0
  have p1 : X2a.cell? ⟨w2.heap.size, 1, none⟩ = some (.int .i64 1) := Hp.out.cell 1
  have p2 : X2a.cell? ⟨w2.heap.size, 2, none⟩ = some (.slice (some ⟨r, 0, none⟩) 3 3) := Hp.out.cell 2
  have q0 : X2a.cell? ⟨w2.heap.size + 1, 0, none⟩ = some (.int .i64 2) := Hq.out.cell 0
  have q1 : X2a.cell? ⟨w2.heap.size + 1, 1, none⟩ = some (.int .i64 1) := Hq.out.cell 1
  have q2 : X2a.cell? ⟨w2.heap.size + 1, 2, none⟩ = some (.slice (some ⟨s, 0, none⟩) 3 3) := Hq.out.cell 2
  have c0 : X2a.cell? ⟨w5.heap.size, 0, none⟩ = some (.int .i64 2) := Hc.out.cell 0
  have c1 : X2a.cell? ⟨w5.heap.size, 1, none⟩ = some (.int .i64 2) := Hc.out.cell 1
  have c2 : X2a.cell? ⟨w5.heap.size, 2, none⟩ = some (.slice (some ⟨r2, 0, none⟩) 6 6) := Hc.out.cell 2
  have u0 : X2a.cell? ⟨w6.heap.size, 0, none⟩ = some (.int .i64 1) := Hu.out.cell 0
  have u1 : X2a.cell? ⟨w6.heap.size, 1, none⟩ = some (.int .i64 1) := Hu.out.cell 1
  have u2 : X2a.cell? ⟨w6.heap.size, 2, none⟩ = some (.slice (some ⟨r3, 0, none⟩) 2 2) := Hu.out.cell 2
  have z0 : X2a.cell? ⟨w7.heap.size, 0, none⟩ = some (.bool (sgnB (dN (dI 8)))) := Hz.out.cell 0
  have z1 : X2a.cell? ⟨w7.heap.size, 1, none⟩ = some (.string (bs (nt (dN (dI 8)).natAbs))) := Hz.out.cell 1
  have z2 : X2a.cell? ⟨w7.heap.size, 2, none⟩ = some (.int .i64 (dE (dI 8))) := Hz.out.cell 2
  have l10 : X2a.cell? ⟨W7.heap.size, 0, none⟩ = some (.int .i64 0) := Hl1.out.cell 0
  have l11 : X2a.cell? ⟨W7.heap.size, 1, none⟩ = some (.int .i64 4) := Hl1.out.cell 1
  have l12 : X2a.cell? ⟨W7.heap.size, 2, none⟩ = some (.int .i64 6) := Hl1.out.cell 2
  have l20 : X2a.cell? ⟨X1c.heap.size, 0, none⟩ = some (.int .i64 0) := Hl2.out.cell 0
  have l21 : X2a.cell? ⟨X1c.heap.size, 1, none⟩ = some (.int .i64 6) := Hl2.out.cell 1
  have l22 : X2a.cell? ⟨X1c.heap.size, 2, none⟩ = some (.int .i64 8) := Hl2.out.cell 2
  replace Hb := Lib.hid (bnext Hb.out hbn); clear hbn
  refine planF rfl rfl (fun K hK => ?_)
  go_simp
  with_reducible refine (aw_of 2 1 _ [0, 6, 8] _ rfl 3 rfl (by decide) (by decide) _ Hl2.out).mono ?_
  rintro e X2b ⟨ol2, cl2, rfl, hat, hq⟩
  have hbn : Below X2a.heap.size X2a X2b := (by first | exact hq | exact bundrew hq); clear hq
  clear f0 f1 f2
  clear p0 p1 p2
  clear q0 q1 q2
  clear c0 c1 c2
  clear u0 u1 u2
  clear z0 z1 z2
  clear l10 l11 l12
  clear l20 l21 l22
  replace HA := Lib.hid (HA.out.below hbn)
  replace HT := Lib.hid (HT.out.below hbn)
  replace Hf := Lib.hid (Hf.out.below hbn)
  replace HA1 := Lib.hid (HA1.out.below hbn)
  replace HA2 := Lib.hid (HA2.out.below hbn)
  replace Hp := Lib.hid (Hp.out.below hbn)
  replace Hq := Lib.hid (Hq.out.below hbn)
  replace HA3 := Lib.hid (HA3.out.below hbn)
  replace Hc := Lib.hid (Hc.out.below hbn)
  replace HA4 := Lib.hid (HA4.out.below hbn)
  replace Hu := Lib.hid (Hu.out.below hbn)
  replace Hz := Lib.hid (Hz.out.below hbn)
  replace Hl1 := Lib.hid (Hl1.out.below hbn)
  replace Hl2 := Lib.hid (Hl2.out.below hbn)
  have f0 : X2b.cell? ⟨w1.heap.size, 0, none⟩ = some (.int .i64 2) := Hf.out.cell 0
  have f1 : X2b.cell? ⟨w1.heap.size, 1, none⟩ = some (.int .i64 1) := Hf.out.cell 1
  have f2 : X2b.cell? ⟨w1.heap.size, 2, none⟩ = some (.slice a0 3 cap0) := Hf.out.cell 2
  have p0 : X2b.cell? ⟨w2.heap.size, 0, none⟩ = some (.int .i64 2) := Hp.out.cell 0
  have p1 : X2b.cell? ⟨w2.heap.size, 1, none⟩ = some (.int .i64 1) := Hp.out.cell 1
  have p2 : X2b.cell? ⟨w2.heap.size, 2, none⟩ = some (.slice (some ⟨r, 0, none⟩) 3 3) := Hp.out.cell 2
  have q0 : X2b.cell? ⟨w2.heap.size + 1, 0, none⟩ = some (.int .i64 2) := Hq.out.cell 0
  have q1 : X2b.cell? ⟨w2.heap.size + 1, 1, none⟩ = some (.int .i64 1) := Hq.out.cell 1
  have q2 : X2b.cell? ⟨w2.heap.size + 1, 2, none⟩ = some (.slice (some ⟨s, 0, none⟩) 3 3) := Hq.out.cell 2
  have c0 : X2b.cell? ⟨w5.heap.size, 0, none⟩ = some (.int .i64 2) := Hc.out.cell 0
  have c1 : X2b.cell? ⟨w5.heap.size, 1, none⟩ = some (.int .i64 2) := Hc.out.cell 1
  have c2 : X2b.cell? ⟨w5.heap.size, 2, none⟩ = some (.slice (some ⟨r2, 0, none⟩) 6 6) := Hc.out.cell 2
  have u0 : X2b.cell? ⟨w6.heap.size, 0, none⟩ = some (.int .i64 1) := Hu.out.cell 0
  have u1 : X2b.cell? ⟨w6.heap.size, 1, none⟩ = some (.int .i64 1) := Hu.out.cell 1
  have u2 : X2b.cell? ⟨w6.heap.size, 2, none⟩ = some (.slice (some ⟨r3, 0, none⟩) 2 2) := Hu.out.cell 2
  have z0 : X2b.cell? ⟨w7.heap.size, 0, none⟩ = some (.bool (sgnB (dN (dI 8)))) := Hz.out.cell 0
  have z1 : X2b.cell? ⟨w7.heap.size, 1, none⟩ = some (.string (bs (nt (dN (dI 8)).natAbs))) := Hz.out.cell 1
  have z2 : X2b.cell? ⟨w7.heap.size, 2, none⟩ = some (.int .i64 (dE (dI 8))) := Hz.out.cell 2
  have l10 : X2b.cell? ⟨W7.heap.size, 0, none⟩ = some (.int .i64 0) := Hl1.out.cell 0
  have l11 : X2b.cell? ⟨W7.heap.size, 1, none⟩ = some (.int .i64 4) := Hl1.out.cell 1
  have l12 : X2b.cell? ⟨W7.heap.size, 2, none⟩ = some (.int .i64 6) := Hl1.out.cell 2
  have l20 : X2b.cell? ⟨X1c.heap.size, 0, none⟩ = some (.int .i64 0) := Hl2.out.cell 0
  have l21 : X2b.cell? ⟨X1c.heap.size, 1, none⟩ = some (.int .i64 6) := Hl2.out.cell 1
  have l22 : X2b.cell? ⟨X1c.heap.size, 2, none⟩ = some (.int .i64 8) := Hl2.out.cell 2
  replace Hb := Lib.hid (bnext Hb.out hbn); clear hbn
  refine hK _ _ (fun _ => ⟨p0, p1, p2, q0, q1, q2, c0, c1, c2, u0, u1, u2, z0, z1, z2⟩) ?_; clear hK K
  try simp only [Act.put, List.setIfInBounds_toArray, List.set_cons_zero, List.set_cons_succ]
  refine planF rfl rfl (fun K hK => ?_)
  go_simp
  with_reducible refine (aw_same [0, 6, 8] 2 1 (some ⟨s, 0, none⟩) ol2 3 3 cl2 _ rfl (by decide) HA2.out hat).mono ?_
  rintro e X2c ⟨rfl, hq⟩
  have hbn : Below X2b.heap.size X2b X2c := (by first | exact hq | exact bundrew hq); clear hq
  clear f0 f1 f2
  clear p0 p1 p2
  clear q0 q1 q2
  clear c0 c1 c2
  clear u0 u1 u2
  clear z0 z1 z2
  clear l10 l11 l12
  clear l20 l21 l22
  replace HA := Lib.hid (HA.out.below hbn)
  replace HT := Lib.hid (HT.out.below hbn)
  replace Hf := Lib.hid (Hf.out.below hbn)
  replace HA1 := Lib.hid (HA1.out.below hbn)
  replace HA2 := Lib.hid (HA2.out.below hbn)
  replace Hp := Lib.hid (Hp.out.below hbn)
  replace Hq := Lib.hid (Hq.out.below hbn)
  replace HA3 := Lib.hid (HA3.out.below hbn)
  replace Hc := Lib.hid (Hc.out.below hbn)
  replace HA4 := Lib.hid (HA4.out.below hbn)
  replace Hu := Lib.hid (Hu.out.below hbn)
  replace Hz := Lib.hid (Hz.out.below hbn)
  replace Hl1 := Lib.hid (Hl1.out.below hbn)
  replace Hl2 := Lib.hid (Hl2.out.below hbn)
  have f0 : X2c.cell? ⟨w1.heap.size, 0, none⟩ = some (.int .i64 2) := Hf.out.cell 0
  have f1 : X2c.cell? ⟨w1.heap.size, 1, none⟩ = some (.int .i64 1) := Hf.out.cell 1
  have f2 : X2c.cell? ⟨w1.heap.size, 2, none⟩ = some (.slice a0 3 cap0) := Hf.out.cell 2
  have p0 : X2c.cell? ⟨w2.heap.size, 0, none⟩ = some (.int .i64 2) := Hp.out.cell 0
  have p1 : X2c.cell? ⟨w2.heap.size, 1, none⟩ = some (.int .i64 1) := Hp.out.cell 1
  have p2 : X2c.cell? ⟨w2.heap.size, 2, none⟩ = some (.slice (some ⟨r, 0, none⟩) 3 3) := Hp.out.cell 2
  have q0 : X2c.cell? ⟨w2.heap.size + 1, 0, none⟩ = some (.int .i64 2) := Hq.out.cell 0
  have q1 : X2c.cell? ⟨w2.heap.size + 1, 1, none⟩ = some (.int .i64 1) := Hq.out.cell 1
  have q2 : X2c.cell? ⟨w2.heap.size + 1, 2, none⟩ = some (.slice (some ⟨s, 0, none⟩) 3 3) := Hq.out.cell 2
  have c0 : X2c.cell? ⟨w5.heap.size, 0, none⟩ = some (.int .i64 2) := Hc.out.cell 0
  have c1 : X2c.cell? ⟨w5.heap.size, 1, none⟩ = some (.int .i64 2) := Hc.out.cell 1
  have c2 : X2c.cell? ⟨w5.heap.size, 2, none⟩ = some (.slice (some ⟨r2, 0, none⟩) 6 6) := Hc.out.cell 2
  have u0 : X2c.cell? ⟨w6.heap.size, 0, none⟩ = some (.int .i64 1) := Hu.out.cell 0
  have u1 : X2c.cell? ⟨w6.heap.size, 1, none⟩ = some (.int .i64 1) := Hu.out.cell 1
  have u2 : X2c.cell? ⟨w6.heap.size, 2, none⟩ = some (.slice (some ⟨r3, 0, none⟩) 2 2) := Hu.out.cell 2
  have z0 : X2c.cell? ⟨w7.heap.size, 0, none⟩ = some (.bool (sgnB (dN (dI 8)))) := Hz.out.cell 0
  have z1 : X2c.cell? ⟨w7.heap.size, 1, none⟩ = some (.string (bs (nt (dN (dI 8)).natAbs))) := Hz.out.cell 1
  have z2 : X2c.cell? ⟨w7.heap.size, 2, none⟩ = some (.int .i64 (dE (dI 8))) := Hz.out.cell 2
  have l10 : X2c.cell? ⟨W7.heap.size, 0, none⟩ = some (.int .i64 0) := Hl1.out.cell 0
  have l11 : X2c.cell? ⟨W7.heap.size, 1, none⟩ = some (.int .i64 4) := Hl1.out.cell 1
  have l12 : X2c.cell? ⟨W7.heap.size, 2, none⟩ = some (.int .i64 6) := Hl1.out.cell 2
  have l20 : X2c.cell? ⟨X1c.heap.size, 0, none⟩ = some (.int .i64 0) := Hl2.out.cell 0
  have l21 : X2c.cell? ⟨X1c.heap.size, 1, none⟩ = some (.int .i64 6) := Hl2.out.cell 1
  have l22 : X2c.cell? ⟨X1c.heap.size, 2, none⟩ = some (.int .i64 8) := Hl2.out.cell 2
  replace Hb := Lib.hid (bnext Hb.out hbn); clear hbn
  refine hK _ _ (fun _ => ⟨p0, p1, p2, q0, q1, q2, c0, c1, c2, u0, u1, u2, z0, z1, z2⟩) ?_; clear hK K
  try simp only [Act.put, List.setIfInBounds_toArray, List.set_cons_zero, List.set_cons_succ]
  refine planT rfl rfl (v := ?_) (fun w' hw' => ?_) ?_; rotate_left; focus (go_simp; try with_reducible rfl)
  try simp only [Act.put, List.setIfInBounds_toArray, List.set_cons_zero, List.set_cons_succ]
  refine planT rfl rfl (v := ?_) (fun w' hw' => ?_) ?_; rotate_left; focus (go_simp; try with_reducible rfl)
  try simp only [Act.put, List.setIfInBounds_toArray, List.set_cons_zero, List.set_cons_succ]
  refine planT rfl rfl (v := ?_) (fun w' hw' => ?_) ?_; rotate_left; focus (go_simp; try with_reducible rfl)
  try simp only [Act.put, List.setIfInBounds_toArray, List.set_cons_zero, List.set_cons_succ]
  refine planT rfl rfl (v := ?_) (fun w' hw' => ?_) ?_; rotate_left; focus (go_simp; try with_reducible rfl)
  try simp only [Act.put, List.setIfInBounds_toArray, List.set_cons_zero, List.set_cons_succ]
  refine planT rfl rfl (v := ?_) (fun w' hw' => ?_) ?_; rotate_left; focus (go_simp; try with_reducible rfl)
  try simp only [Act.put, List.setIfInBounds_toArray, List.set_cons_zero, List.set_cons_succ]
  refine planT rfl rfl (v := ?_) (fun w' hw' => ?_) ?_; rotate_left; focus (go_simp; try with_reducible rfl)
  try simp only [Act.put, List.setIfInBounds_toArray, List.set_cons_zero, List.set_cons_succ]
  refine planT rfl rfl (v := ?_) (fun w' hw' => ?_) ?_; rotate_left; focus (go_simp; try with_reducible rfl)
  try simp only [Act.put, List.setIfInBounds_toArray, List.set_cons_zero, List.set_cons_succ]
  refine planT rfl rfl (v := ?_) (fun w' hw' => ?_) ?_; rotate_left; focus (go_simp; try with_reducible rfl)
  try simp only [Act.put, List.setIfInBounds_toArray, List.set_cons_zero, List.set_cons_succ]
  refine planT rfl rfl (v := ?_) (fun w' hw' => ?_) ?_; rotate_left; focus (go_simp; try with_reducible rfl)
  try simp only [Act.put, List.setIfInBounds_toArray, List.set_cons_zero, List.set_cons_succ]
  refine planT rfl rfl (v := ?_) (fun w' hw' => ?_) ?_; rotate_left; focus (go_simp; try with_reducible rfl)
  try simp only [Act.put, List.setIfInBounds_toArray, List.set_cons_zero, List.set_cons_succ]
  refine planT rfl rfl (v := ?_) (fun w' hw' => ?_) ?_; rotate_left; focus (go_simp; try with_reducible rfl)
  try simp only [Act.put, List.setIfInBounds_toArray, List.set_cons_zero, List.set_cons_succ]
  refine planT rfl rfl (v := ?_) (fun w' hw' => ?_) ?_; rotate_left; focus (go_simp; try with_reducible rfl)
  try simp only [Act.put, List.setIfInBounds_toArray, List.set_cons_zero, List.set_cons_succ]
  refine planT rfl rfl (v := ?_) (fun w' hw' => ?_) ?_; rotate_left; focus (go_simp; try with_reducible rfl)
  try simp only [Act.put, List.setIfInBounds_toArray, List.set_cons_zero, List.set_cons_succ]
  refine planT rfl rfl (v := ?_) (fun w' hw' => ?_) ?_; rotate_left; focus (go_simp; try with_reducible rfl)
  try simp only [Act.put, List.setIfInBounds_toArray, List.set_cons_zero, List.set_cons_succ]
  refine planT rfl rfl (v := ?_) (fun w' hw' => ?_) ?_; rotate_left; focus (obtain ⟨q0, q1, q2, q3, q4, q5, q6, q7, q8, q9, q10, q11, q12, q13, q14⟩ := hw'; go_simp; try with_reducible rfl)
  try simp only [Act.put, List.setIfInBounds_toArray, List.set_cons_zero, List.set_cons_succ]
  refine planF rfl rfl (fun K hK => ?_)
  go_simp
  refine hK _ _ (fun _ => ⟨cell_new p0, cell_new p1, cell_new p2, cell_new q0, cell_new q1, cell_new q2, cell_new c0, cell_new c1, cell_new c2, cell_new u0, cell_new u1, cell_new u2, cell_new z0, cell_new z1, cell_new z2⟩) ?_; clear hK K
  try simp only [Act.put, List.setIfInBounds_toArray, List.set_cons_zero, List.set_cons_succ]
  refine plan_world (fun X3a => Blk X3a (X2c.heap.size) 2 [.int .i64 0, .int .i64 4, .int .i64 8, .int .i64 4, .int .i64 12, .int .i64 8] ∧ Below X2c.heap.size X2c X3a) (by first | exact ⟨Blk.new _ _ _, (Below.refl _ _).alloc (Nat.le_refl _) _⟩ | exact ⟨Blk.drew (Blk.new _ _ _), ((Below.refl _ _).alloc (Nat.le_refl _) _).drew⟩) ?_
  rintro X3a ⟨ql3, hbn⟩
  clear f0 f1 f2
  clear p0 p1 p2
  clear q0 q1 q2
  clear c0 c1 c2
  clear u0 u1 u2
  clear z0 z1 z2
  clear l10 l11 l12
  clear l20 l21 l22
  have lz_f_X3a : w1.heap.size < X2c.heap.size := Hf.out.lt
  have lz_p_X3a : w2.heap.size < X2c.heap.size := Hp.out.lt
  have lz_q_X3a : w2.heap.size + 1 < X2c.heap.size := Hq.out.lt
  have lz_c_X3a : w5.heap.size < X2c.heap.size := Hc.out.lt
  have lz_u_X3a : w6.heap.size < X2c.heap.size := Hu.out.lt
  have lz_z_X3a : w7.heap.size < X2c.heap.size := Hz.out.lt
  have lz_l1_X3a : W7.heap.size < X2c.heap.size := Hl1.out.lt
  have lz_l2_X3a : X1c.heap.size < X2c.heap.size := Hl2.out.lt
  replace HA := Lib.hid (HA.out.below hbn)
  replace HT := Lib.hid (HT.out.below hbn)
  replace Hf := Lib.hid (Hf.out.below hbn)
  replace HA1 := Lib.hid (HA1.out.below hbn)
  replace HA2 := Lib.hid (HA2.out.below hbn)
  replace Hp := Lib.hid (Hp.out.below hbn)
  replace Hq := Lib.hid (Hq.out.below hbn)
  replace HA3 := Lib.hid (HA3.out.below hbn)
  replace Hc := Lib.hid (Hc.out.below hbn)
  replace HA4 := Lib.hid (HA4.out.below hbn)
  replace Hu := Lib.hid (Hu.out.below hbn)
  replace Hz := Lib.hid (Hz.out.below hbn)
  replace Hl1 := Lib.hid (Hl1.out.below hbn)
  replace Hl2 := Lib.hid (Hl2.out.below hbn)
  have Hl3 := Lib.hid ql3; clear ql3
  have f0 : X3a.cell? ⟨w1.heap.size, 0, none⟩ = some (.int .i64 2) := Hf.out.cell 0
  have f1 : X3a.cell? ⟨w1.heap.size, 1, none⟩ = some (.int .i64 1) := Hf.out.cell 1
  have f2 : X3a.cell? ⟨w1.heap.size, 2, none⟩ = some (.slice a0 3 cap0) := Hf.out.cell 2
  have p0 : X3a.cell? ⟨w2.heap.size, 0, none⟩ = some (.int .i64 2) := Hp.out.cell 0
  have p1 : X3a.cell? ⟨w2.heap.size, 1, none⟩ = some (.int .i64 1) := Hp.out.cell 1
  have p2 : X3a.cell? ⟨w2.heap.size, 2, none⟩ = some (.slice (some ⟨r, 0, none⟩) 3 3) := Hp.out.cell 2
  have q0 : X3a.cell? ⟨w2.heap.size + 1, 0, none⟩ = some (.int .i64 2) := Hq.out.cell 0
  have q1 : X3a.cell? ⟨w2.heap.size + 1, 1, none⟩ = some (.int .i64 1) := Hq.out.cell 1
  have q2 : X3a.cell? ⟨w2.heap.size + 1, 2, none⟩ = some (.slice (some ⟨s, 0, none⟩) 3 3) := Hq.out.cell 2
  have c0 : X3a.cell? ⟨w5.heap.size, 0, none⟩ = some (.int .i64 2) := Hc.out.cell 0
  have c1 : X3a.cell? ⟨w5.heap.size, 1, none⟩ = some (.int .i64 2) := Hc.out.cell 1
  have c2 : X3a.cell? ⟨w5.heap.size, 2, none⟩ = some (.slice (some ⟨r2, 0, none⟩) 6 6) := Hc.out.cell 2
  have u0 : X3a.cell? ⟨w6.heap.size, 0, none⟩ = some (.int .i64 1) := Hu.out.cell 0
  have u1 : X3a.cell? ⟨w6.heap.size, 1, none⟩ = some (.int .i64 1) := Hu.out.cell 1
  have u2 : X3a.cell? ⟨w6.heap.size, 2, none⟩ = some (.slice (some ⟨r3, 0, none⟩) 2 2) := Hu.out.cell 2
  have z0 : X3a.cell? ⟨w7.heap.size, 0, none⟩ = some (.bool (sgnB (dN (dI 8)))) := Hz.out.cell 0
  have z1 : X3a.cell? ⟨w7.heap.size, 1, none⟩ = some (.string (bs (nt (dN (dI 8)).natAbs))) := Hz.out.cell 1
  have z2 : X3a.cell? ⟨w7.heap.size, 2, none⟩ = some (.int .i64 (dE (dI 8))) := Hz.out.cell 2
  have l10 : X3a.cell? ⟨W7.heap.size, 0, none⟩ = some (.int .i64 0) := Hl1.out.cell 0
  have l11 : X3a.cell? ⟨W7.heap.size, 1, none⟩ = some (.int .i64 4) := Hl1.out.cell 1
  have l12 : X3a.cell? ⟨W7.heap.size, 2, none⟩ = some (.int .i64 6) := Hl1.out.cell 2
  have l20 : X3a.cell? ⟨X1c.heap.size, 0, none⟩ = some (.int .i64 0) := Hl2.out.cell 0
  have l21 : X3a.cell? ⟨X1c.heap.size, 1, none⟩ = some (.int .i64 6) := Hl2.out.cell 1
  have l22 : X3a.cell? ⟨X1c.heap.size, 2, none⟩ = some (.int .i64 8) := Hl2.out.cell 2
  have l30 : X3a.cell? ⟨X2c.heap.size, 0, none⟩ = some (.int .i64 0) := Hl3.out.cell 0
  have l31 : X3a.cell? ⟨X2c.heap.size, 1, none⟩ = some (.int .i64 4) := Hl3.out.cell 1
  have l32 : X3a.cell? ⟨X2c.heap.size, 2, none⟩ = some (.int .i64 8) := Hl3.out.cell 2
  have l33 : X3a.cell? ⟨X2c.heap.size, 3, none⟩ = some (.int .i64 4) := Hl3.out.cell 3
  have l34 : X3a.cell? ⟨X2c.heap.size, 4, none⟩ = some (.int .i64 12) := Hl3.out.cell 4
  have l35 : X3a.cell? ⟨X2c.heap.size, 5, none⟩ = some (.int .i64 8) := Hl3.out.cell 5
  replace Hb := Lib.hid (bnext Hb.out hbn); clear hbn
  refine planF rfl rfl (fun K hK => ?_)
  go_simp
  with_reducible refine (aw_of 2 2 _ [0, 4, 8, 4, 12, 8] _ rfl 6 rfl (by decide) (by decide) _ Hl3.out).mono ?_
  rintro e X3b ⟨ol3, cl3, rfl, hat, hq⟩
  have hbn : Below X3a.heap.size X3a X3b := (by first | exact hq | exact bundrew hq); clear hq
  clear f0 f1 f2
  clear p0 p1 p2
  clear q0 q1 q2
  clear c0 c1 c2
  clear u0 u1 u2
  clear z0 z1 z2
  clear l10 l11 l12
  clear l20 l21 l22
  clear l30 l31 l32 l33 l34 l35
  replace HA := Lib.hid (HA.out.below hbn)
  replace HT := Lib.hid (HT.out.below hbn)
  replace Hf := Lib.hid (Hf.out.below hbn)
  replace HA1 := Lib.hid (HA1.out.below hbn)
  replace HA2 := Lib.hid (HA2.out.below hbn)
  replace Hp := Lib.hid (Hp.out.below hbn)
  replace Hq := Lib.hid (Hq.out.below hbn)
  replace HA3 := Lib.hid (HA3.out.below hbn)
  replace Hc := Lib.hid (Hc.out.below hbn)
  replace HA4 := Lib.hid (HA4.out.below hbn)
  replace Hu := Lib.hid (Hu.out.below hbn)
  replace Hz := Lib.hid (Hz.out.below hbn)
  replace Hl1 := Lib.hid (Hl1.out.below hbn)
  replace Hl2 := Lib.hid (Hl2.out.below hbn)
  replace Hl3 := Lib.hid (Hl3.out.below hbn)
  have f0 : X3b.cell? ⟨w1.heap.size, 0, none⟩ = some (.int .i64 2) := Hf.out.cell 0
  have f1 : X3b.cell? ⟨w1.heap.size, 1, none⟩ = some (.int .i64 1) := Hf.out.cell 1
  have f2 : X3b.cell? ⟨w1.heap.size, 2, none⟩ = some (.slice a0 3 cap0) := Hf.out.cell 2
  have p0 : X3b.cell? ⟨w2.heap.size, 0, none⟩ = some (.int .i64 2) := Hp.out.cell 0
  have p1 : X3b.cell? ⟨w2.heap.size, 1, none⟩ = some (.int .i64 1) := Hp.out.cell 1
  have p2 : X3b.cell? ⟨w2.heap.size, 2, none⟩ = some (.slice (some ⟨r, 0, none⟩) 3 3) := Hp.out.cell 2
  have q0 : X3b.cell? ⟨w2.heap.size + 1, 0, none⟩ = some (.int .i64 2) := Hq.out.cell 0
  have q1 : X3b.cell? ⟨w2.heap.size + 1, 1, none⟩ = some (.int .i64 1) := Hq.out.cell 1
  have q2 : X3b.cell? ⟨w2.heap.size + 1, 2, none⟩ = some (.slice (some ⟨s, 0, none⟩) 3 3) := Hq.out.cell 2
  have c0 : X3b.cell? ⟨w5.heap.size, 0, none⟩ = some (.int .i64 2) := Hc.out.cell 0
  have c1 : X3b.cell? ⟨w5.heap.size, 1, none⟩ = some (.int .i64 2) := Hc.out.cell 1
  have c2 : X3b.cell? ⟨w5.heap.size, 2, none⟩ = some (.slice (some ⟨r2, 0, none⟩) 6 6) := Hc.out.cell 2
  have u0 : X3b.cell? ⟨w6.heap.size, 0, none⟩ = some (.int .i64 1) := Hu.out.cell 0
  have u1 : X3b.cell? ⟨w6.heap.size, 1, none⟩ = some (.int .i64 1) := Hu.out.cell 1
  have u2 : X3b.cell? ⟨w6.heap.size, 2, none⟩ = some (.slice (some ⟨r3, 0, none⟩) 2 2) := Hu.out.cell 2
  have z0 : X3b.cell? ⟨w7.heap.size, 0, none⟩ = some (.bool (sgnB (dN (dI 8)))) := Hz.out.cell 0
  have z1 : X3b.cell? ⟨w7.heap.size, 1, none⟩ = some (.string (bs (nt (dN (dI 8)).natAbs))) := Hz.out.cell 1
  have z2 : X3b.cell? ⟨w7.heap.size, 2, none⟩ = some (.int .i64 (dE (dI 8))) := Hz.out.cell 2
  have l10 : X3b.cell? ⟨W7.heap.size, 0, none⟩ = some (.int .i64 0) := Hl1.out.cell 0
  have l11 : X3b.cell? ⟨W7.heap.size, 1, none⟩ = some (.int .i64 4) := Hl1.out.cell 1
  have l12 : X3b.cell? ⟨W7.heap.size, 2, none⟩ = some (.int .i64 6) := Hl1.out.cell 2
  have l20 : X3b.cell? ⟨X1c.heap.size, 0, none⟩ = some (.int .i64 0) := Hl2.out.cell 0
  have l21 : X3b.cell? ⟨X1c.heap.size, 1, none⟩ = some (.int .i64 6) := Hl2.out.cell 1
  have l22 : X3b.cell? ⟨X1c.heap.size, 2, none⟩ = some (.int .i64 8) := Hl2.out.cell 2
  have l30 : X3b.cell? ⟨X2c.heap.size, 0, none⟩ = some (.int .i64 0) := Hl3.out.cell 0
  have l31 : X3b.cell? ⟨X2c.heap.size, 1, none⟩ = some (.int .i64 4) := Hl3.out.cell 1
  have l32 : X3b.cell? ⟨X2c.heap.size, 2, none⟩ = some (.int .i64 8) := Hl3.out.cell 2
  have l33 : X3b.cell? ⟨X2c.heap.size, 3, none⟩ = some (.int .i64 4) := Hl3.out.cell 3
  have l34 : X3b.cell? ⟨X2c.heap.size, 4, none⟩ = some (.int .i64 12) := Hl3.out.cell 4
  have l35 : X3b.cell? ⟨X2c.heap.size, 5, none⟩ = some (.int .i64 8) := Hl3.out.cell 5
  replace Hb := Lib.hid (bnext Hb.out hbn); clear hbn
  refine hK _ _ (fun _ => ⟨p0, p1, p2, q0, q1, q2, c0, c1, c2, u0, u1, u2, z0, z1, z2⟩) ?_; clear hK K
  try simp only [Act.put, List.setIfInBounds_toArray, List.set_cons_zero, List.set_cons_succ]
  refine planF rfl rfl (fun K hK => ?_)
  go_simp
  with_reducible refine (aw_same [0, 4, 8, 4, 12, 8] 2 2 (some ⟨r2, 0, none⟩) ol3 6 6 cl3 _ rfl (by decide) HA3.out hat).mono ?_
  rintro e X3c ⟨rfl, hq⟩
  have hbn : Below X3b.heap.size X3b X3c := (by first | exact hq | exact bundrew hq); clear hq
  clear f0 f1 f2
  clear p0 p1 p2
  clear q0 q1 q2
  clear c0 c1 c2
  clear u0 u1 u2
  clear z0 z1 z2
  clear l10 l11 l12
  clear l20 l21 l22
  clear l30 l31 l32 l33 l34 l35
  replace HA := Lib.hid (HA.out.below hbn)
  replace HT := Lib.hid (HT.out.below hbn)
  replace Hf := Lib.hid (Hf.out.below hbn)
  replace HA1 := Lib.hid (HA1.out.below hbn)
  replace HA2 := Lib.hid (HA2.out.below hbn)
  replace Hp := Lib.hid (Hp.out.below hbn)
  replace Hq := Lib.hid (Hq.out.below hbn)
  replace HA3 := Lib.hid (HA3.out.below hbn)
  replace Hc := Lib.hid (Hc.out.below hbn)
  replace HA4 := Lib.hid (HA4.out.below hbn)
  replace Hu := Lib.hid (Hu.out.below hbn)
  replace Hz := Lib.hid (Hz.out.below hbn)
  replace Hl1 := Lib.hid (Hl1.out.below hbn)
  replace Hl2 := Lib.hid (Hl2.out.below hbn)
  replace Hl3 := Lib.hid (Hl3.out.below hbn)
  have f0 : X3c.cell? ⟨w1.heap.size, 0, none⟩ = some (.int .i64 2) := Hf.out.cell 0
  have f1 : X3c.cell? ⟨w1.heap.size, 1, none⟩ = some (.int .i64 1) := Hf.out.cell 1
  have f2 : X3c.cell? ⟨w1.heap.size, 2, none⟩ = some (.slice a0 3 cap0) := Hf.out.cell 2
  have p0 : X3c.cell? ⟨w2.heap.size, 0, none⟩ = some (.int .i64 2) := Hp.out.cell 0
  have p1 : X3c.cell? ⟨w2.heap.size, 1, none⟩ = some (.int .i64 1) := Hp.out.cell 1
  have p2 : X3c.cell? ⟨w2.heap.size, 2, none⟩ = some (.slice (some ⟨r, 0, none⟩) 3 3) := Hp.out.cell 2
  have q0 : X3c.cell? ⟨w2.heap.size + 1, 0, none⟩ = some (.int .i64 2) := Hq.out.cell 0
  have q1 : X3c.cell? ⟨w2.heap.size + 1, 1, none⟩ = some (.int .i64 1) := Hq.out.cell 1
  have q2 : X3c.cell? ⟨w2.heap.size + 1, 2, none⟩ = some (.slice (some ⟨s, 0, none⟩) 3 3) := Hq.out.cell 2
  have c0 : X3c.cell? ⟨w5.heap.size, 0, none⟩ = some (.int .i64 2) := Hc.out.cell 0
  have c1 : X3c.cell? ⟨w5.heap.size, 1, none⟩ = some (.int .i64 2) := Hc.out.cell 1
  have c2 : X3c.cell? ⟨w5.heap.size, 2, none⟩ = some (.slice (some ⟨r2, 0, none⟩) 6 6) := Hc.out.cell 2
  have u0 : X3c.cell? ⟨w6.heap.size, 0, none⟩ = some (.int .i64 1) := Hu.out.cell 0
  have u1 : X3c.cell? ⟨w6.heap.size, 1, none⟩ = some (.int .i64 1) := Hu.out.cell 1
  have u2 : X3c.cell? ⟨w6.heap.size, 2, none⟩ = some (.slice (some ⟨r3, 0, none⟩) 2 2) := Hu.out.cell 2
  have z0 : X3c.cell? ⟨w7.heap.size, 0, none⟩ = some (.bool (sgnB (dN (dI 8)))) := Hz.out.cell 0
  have z1 : X3c.cell? ⟨w7.heap.size, 1, none⟩ = some (.string (bs (nt (dN (dI 8)).natAbs))) := Hz.out.cell 1
  have z2 : X3c.cell? ⟨w7.heap.size, 2, none⟩ = some (.int .i64 (dE (dI 8))) := Hz.out.cell 2
  have l10 : X3c.cell? ⟨W7.heap.size, 0, none⟩ = some (.int .i64 0) := Hl1.out.cell 0
  have l11 : X3c.cell? ⟨W7.heap.size, 1, none⟩ = some (.int .i64 4) := Hl1.out.cell 1
  have l12 : X3c.cell? ⟨W7.heap.size, 2, none⟩ = some (.int .i64 6) := Hl1.out.cell 2
  have l20 : X3c.cell? ⟨X1c.heap.size, 0, none⟩ = some (.int .i64 0) := Hl2.out.cell 0
  have l21 : X3c.cell? ⟨X1c.heap.size, 1, none⟩ = some (.int .i64 6) := Hl2.out.cell 1
  have l22 : X3c.cell? ⟨X1c.heap.size, 2, none⟩ = some (.int .i64 8) := Hl2.out.cell 2
  have l30 : X3c.cell? ⟨X2c.heap.size, 0, none⟩ = some (.int .i64 0) := Hl3.out.cell 0
  have l31 : X3c.cell? ⟨X2c.heap.size, 1, none⟩ = some (.int .i64 4) := Hl3.out.cell 1
  have l32 : X3c.cell? ⟨X2c.heap.size, 2, none⟩ = some (.int .i64 8) := Hl3.out.cell 2
  have l33 : X3c.cell? ⟨X2c.heap.size, 3, none⟩ = some (.int .i64 4) := Hl3.out.cell 3
  have l34 : X3c.cell? ⟨X2c.heap.size, 4, none⟩ = some (.int .i64 12) := Hl3.out.cell 4
  have l35 : X3c.cell? ⟨X2c.heap.size, 5, none⟩ = some (.int .i64 8) := Hl3.out.cell 5
  replace Hb := Lib.hid (bnext Hb.out hbn); clear hbn
  refine hK _ _ (fun _ => ⟨p0, p1, p2, q0, q1, q2, c0, c1, c2, u0, u1, u2, z0, z1, z2⟩) ?_; clear hK K
  try simp only [Act.put, List.setIfInBounds_toArray, List.set_cons_zero, List.set_cons_succ]
  refine planT rfl rfl (v := ?_) (fun w' hw' => ?_) ?_; rotate_left; focus (go_simp; try with_reducible rfl)
  try simp only [Act.put, List.setIfInBounds_toArray, List.set_cons_zero, List.set_cons_succ]
  refine planT rfl rfl (v := ?_) (fun w' hw' => ?_) ?_; rotate_left; focus (go_simp; try with_reducible rfl)
  try simp only [Act.put, List.setIfInBounds_toArray, List.set_cons_zero, List.set_cons_succ]
  refine planT rfl rfl (v := ?_) (fun w' hw' => ?_) ?_; rotate_left; focus (go_simp; try with_reducible rfl)
  try simp only [Act.put, List.setIfInBounds_toArray, List.set_cons_zero, List.set_cons_succ]
  refine planT rfl rfl (v := ?_) (fun w' hw' => ?_) ?_; rotate_left; focus (go_simp; try with_reducible rfl)
  try simp only [Act.put, List.setIfInBounds_toArray, List.set_cons_zero, List.set_cons_succ]
  refine planT rfl rfl (v := ?_) (fun w' hw' => ?_) ?_; rotate_left; focus (go_simp; try with_reducible rfl)
  try simp only [Act.put, List.setIfInBounds_toArray, List.set_cons_zero, List.set_cons_succ]
  refine planT rfl rfl (v := ?_) (fun w' hw' => ?_) ?_; rotate_left; focus (go_simp; try with_reducible rfl)
  try simp only [Act.put, List.setIfInBounds_toArray, List.set_cons_zero, List.set_cons_succ]
  refine planT rfl rfl (v := ?_) (fun w' hw' => ?_) ?_; rotate_left; focus (obtain ⟨q0, q1, q2, q3, q4, q5, q6, q7, q8, q9, q10, q11, q12, q13, q14⟩ := hw'; go_simp; try with_reducible rfl)
  try simp only [Act.put, List.setIfInBounds_toArray, List.set_cons_zero, List.set_cons_succ]
  refine planF rfl rfl (fun K hK => ?_)
  go_simp
  refine hK _ _ (fun _ => ⟨cell_new p0, cell_new p1, cell_new p2, cell_new q0, cell_new q1, cell_new q2, cell_new c0, cell_new c1, cell_new c2, cell_new u0, cell_new u1, cell_new u2, cell_new z0, cell_new z1, cell_new z2⟩) ?_; clear hK K
  try simp only [Act.put, List.setIfInBounds_toArray, List.set_cons_zero, List.set_cons_succ]
  refine plan_world (fun X4a => Blk X4a (X3c.heap.size) 2 [.int .i64 4, .int .i64 8] ∧ Below X3c.heap.size X3c X4a) (by first | exact ⟨Blk.new _ _ _, (Below.refl _ _).alloc (Nat.le_refl _) _⟩ | exact ⟨Blk.drew (Blk.new _ _ _), ((Below.refl _ _).alloc (Nat.le_refl _) _).drew⟩) ?_
  rintro X4a ⟨ql4, hbn⟩
  clear f0 f1 f2
  clear p0 p1 p2
  clear q0 q1 q2
  clear c0 c1 c2
  clear u0 u1 u2
  clear z0 z1 z2
  clear l10 l11 l12
  clear l20 l21 l22
  clear l30 l31 l32 l33 l34 l35
  have lz_f_X4a : w1.heap.size < X3c.heap.size := Hf.out.lt
  have lz_p_X4a : w2.heap.size < X3c.heap.size := Hp.out.lt
  have lz_q_X4a : w2.heap.size + 1 < X3c.heap.size := Hq.out.lt
  have lz_c_X4a : w5.heap.size < X3c.heap.size := Hc.out.lt
  have lz_u_X4a : w6.heap.size < X3c.heap.size := Hu.out.lt
  have lz_z_X4a : w7.heap.size < X3c.heap.size := Hz.out.lt
  have lz_l1_X4a : W7.heap.size < X3c.heap.size := Hl1.out.lt
  have lz_l2_X4a : X1c.heap.size < X3c.heap.size := Hl2.out.lt
  have lz_l3_X4a : X2c.heap.size < X3c.heap.size := Hl3.out.lt
  replace HA := Lib.hid (HA.out.below hbn)
  replace HT := Lib.hid (HT.out.below hbn)
  replace Hf := Lib.hid (Hf.out.below hbn)
  replace HA1 := Lib.hid (HA1.out.below hbn)
  replace HA2 := Lib.hid (HA2.out.below hbn)
  replace Hp := Lib.hid (Hp.out.below hbn)
  replace Hq := Lib.hid (Hq.out.below hbn)
  replace HA3 := Lib.hid (HA3.out.below hbn)
  replace Hc := Lib.hid (Hc.out.below hbn)
  replace HA4 := Lib.hid (HA4.out.below hbn)
  replace Hu := Lib.hid (Hu.out.below hbn)
  replace Hz := Lib.hid (Hz.out.below hbn)
  replace Hl1 := Lib.hid (Hl1.out.below hbn)
  replace Hl2 := Lib.hid (Hl2.out.below hbn)
  replace Hl3 := Lib.hid (Hl3.out.below hbn)
  have Hl4 := Lib.hid ql4; clear ql4
  have f0 : X4a.cell? ⟨w1.heap.size, 0, none⟩ = some (.int .i64 2) := Hf.out.cell 0
  have f1 : X4a.cell? ⟨w1.heap.size, 1, none⟩ = some (.int .i64 1) := Hf.out.cell 1
  have f2 : X4a.cell? ⟨w1.heap.size, 2, none⟩ = some (.slice a0 3 cap0) := Hf.out.cell 2
  have p0 : X4a.cell? ⟨w2.heap.size, 0, none⟩ = some (.int .i64 2) := Hp.out.cell 0
  have p1 : X4a.cell? ⟨w2.heap.size, 1, none⟩ = some (.int .i64 1) := Hp.out.cell 1
  have p2 : X4a.cell? ⟨w2.heap.size, 2, none⟩ = some (.slice (some ⟨r, 0, none⟩) 3 3) := Hp.out.cell 2
  have q0 : X4a.cell? ⟨w2.heap.size + 1, 0, none⟩ = some (.int .i64 2) := Hq.out.cell 0
  have q1 : X4a.cell? ⟨w2.heap.size + 1, 1, none⟩ = some (.int .i64 1) := Hq.out.cell 1
  have q2 : X4a.cell? ⟨w2.heap.size + 1, 2, none⟩ = some (.slice (some ⟨s, 0, none⟩) 3 3) := Hq.out.cell 2
  have c0 : X4a.cell? ⟨w5.heap.size, 0, none⟩ = some (.int .i64 2) := Hc.out.cell 0
  have c1 : X4a.cell? ⟨w5.heap.size, 1, none⟩ = some (.int .i64 2) := Hc.out.cell 1
  have c2 : X4a.cell? ⟨w5.heap.size, 2, none⟩ = some (.slice (some ⟨r2, 0, none⟩) 6 6) := Hc.out.cell 2
  have u0 : X4a.cell? ⟨w6.heap.size, 0, none⟩ = some (.int .i64 1) := Hu.out.cell 0
  have u1 : X4a.cell? ⟨w6.heap.size, 1, none⟩ = some (.int .i64 1) := Hu.out.cell 1
  have u2 : X4a.cell? ⟨w6.heap.size, 2, none⟩ = some (.slice (some ⟨r3, 0, none⟩) 2 2) := Hu.out.cell 2
  have z0 : X4a.cell? ⟨w7.heap.size, 0, none⟩ = some (.bool (sgnB (dN (dI 8)))) := Hz.out.cell 0
  have z1 : X4a.cell? ⟨w7.heap.size, 1, none⟩ = some (.string (bs (nt (dN (dI 8)).natAbs))) := Hz.out.cell 1
  have z2 : X4a.cell? ⟨w7.heap.size, 2, none⟩ = some (.int .i64 (dE (dI 8))) := Hz.out.cell 2
  have l10 : X4a.cell? ⟨W7.heap.size, 0, none⟩ = some (.int .i64 0) := Hl1.out.cell 0
  have l11 : X4a.cell? ⟨W7.heap.size, 1, none⟩ = some (.int .i64 4) := Hl1.out.cell 1
  have l12 : X4a.cell? ⟨W7.heap.size, 2, none⟩ = some (.int .i64 6) := Hl1.out.cell 2
  have l20 : X4a.cell? ⟨X1c.heap.size, 0, none⟩ = some (.int .i64 0) := Hl2.out.cell 0
  have l21 : X4a.cell? ⟨X1c.heap.size, 1, none⟩ = some (.int .i64 6) := Hl2.out.cell 1
  have l22 : X4a.cell? ⟨X1c.heap.size, 2, none⟩ = some (.int .i64 8) := Hl2.out.cell 2
  have l30 : X4a.cell? ⟨X2c.heap.size, 0, none⟩ = some (.int .i64 0) := Hl3.out.cell 0
  have l31 : X4a.cell? ⟨X2c.heap.size, 1, none⟩ = some (.int .i64 4) := Hl3.out.cell 1
  have l32 : X4a.cell? ⟨X2c.heap.size, 2, none⟩ = some (.int .i64 8) := Hl3.out.cell 2
  have l33 : X4a.cell? ⟨X2c.heap.size, 3, none⟩ = some (.int .i64 4) := Hl3.out.cell 3
  have l34 : X4a.cell? ⟨X2c.heap.size, 4, none⟩ = some (.int .i64 12) := Hl3.out.cell 4
  have l35 : X4a.cell? ⟨X2c.heap.size, 5, none⟩ = some (.int .i64 8) := Hl3.out.cell 5
  have l40 : X4a.cell? ⟨X3c.heap.size, 0, none⟩ = some (.int .i64 4) := Hl4.out.cell 0
  have l41 : X4a.cell? ⟨X3c.heap.size, 1, none⟩ = some (.int .i64 8) := Hl4.out.cell 1
  replace Hb := Lib.hid (bnext Hb.out hbn); clear hbn
  refine planF rfl rfl (fun K hK => ?_)
  go_simp
  with_reducible refine (aw_of 1 1 _ [4, 8] _ rfl 2 rfl (by decide) (by decide) _ Hl4.out).mono ?_
  rintro e X4b ⟨ol4, cl4, rfl, hat, hq⟩
  have hbn : Below X4a.heap.size X4a X4b := (by first | exact hq | exact bundrew hq); clear hq
  clear f0 f1 f2
  clear p0 p1 p2
  clear q0 q1 q2
  clear c0 c1 c2
  clear u0 u1 u2
  clear z0 z1 z2
  clear l10 l11 l12
  clear l20 l21 l22
  clear l30 l31 l32 l33 l34 l35
  clear l40 l41
  replace HA := Lib.hid (HA.out.below hbn)
  replace HT := Lib.hid (HT.out.below hbn)
  replace Hf := Lib.hid (Hf.out.below hbn)
  replace HA1 := Lib.hid (HA1.out.below hbn)
  replace HA2 := Lib.hid (HA2.out.below hbn)
  replace Hp := Lib.hid (Hp.out.below hbn)
  replace Hq := Lib.hid (Hq.out.below hbn)
  replace HA3 := Lib.hid (HA3.out.below hbn)
  replace Hc := Lib.hid (Hc.out.below hbn)
  replace HA4 := Lib.hid (HA4.out.below hbn)
  replace Hu := Lib.hid (Hu.out.below hbn)
  replace Hz := Lib.hid (Hz.out.below hbn)
  replace Hl1 := Lib.hid (Hl1.out.below hbn)
  replace Hl2 := Lib.hid (Hl2.out.below hbn)
  replace Hl3 := Lib.hid (Hl3.out.below hbn)
  replace Hl4 := Lib.hid (Hl4.out.below hbn)
  have f0 : X4b.cell? ⟨w1.heap.size, 0, none⟩ = some (.int .i64 2) := Hf.out.cell 0
  have f1 : X4b.cell? ⟨w1.heap.size, 1, none⟩ = some (.int .i64 1) := Hf.out.cell 1
  have f2 : X4b.cell? ⟨w1.heap.size, 2, none⟩ = some (.slice a0 3 cap0) := Hf.out.cell 2
  have p0 : X4b.cell? ⟨w2.heap.size, 0, none⟩ = some (.int .i64 2) := Hp.out.cell 0
  have p1 : X4b.cell? ⟨w2.heap.size, 1, none⟩ = some (.int .i64 1) := Hp.out.cell 1
  have p2 : X4b.cell? ⟨w2.heap.size, 2, none⟩ = some (.slice (some ⟨r, 0, none⟩) 3 3) := Hp.out.cell 2
  have q0 : X4b.cell? ⟨w2.heap.size + 1, 0, none⟩ = some (.int .i64 2) := Hq.out.cell 0
  have q1 : X4b.cell? ⟨w2.heap.size + 1, 1, none⟩ = some (.int .i64 1) := Hq.out.cell 1
  have q2 : X4b.cell? ⟨w2.heap.size + 1, 2, none⟩ = some (.slice (some ⟨s, 0, none⟩) 3 3) := Hq.out.cell 2
  have c0 : X4b.cell? ⟨w5.heap.size, 0, none⟩ = some (.int .i64 2) := Hc.out.cell 0
  have c1 : X4b.cell? ⟨w5.heap.size, 1, none⟩ = some (.int .i64 2) := Hc.out.cell 1
  have c2 : X4b.cell? ⟨w5.heap.size, 2, none⟩ = some (.slice (some ⟨r2, 0, none⟩) 6 6) := Hc.out.cell 2
  have u0 : X4b.cell? ⟨w6.heap.size, 0, none⟩ = some (.int .i64 1) := Hu.out.cell 0
  have u1 : X4b.cell? ⟨w6.heap.size, 1, none⟩ = some (.int .i64 1) := Hu.out.cell 1
  have u2 : X4b.cell? ⟨w6.heap.size, 2, none⟩ = some (.slice (some ⟨r3, 0, none⟩) 2 2) := Hu.out.cell 2
  have z0 : X4b.cell? ⟨w7.heap.size, 0, none⟩ = some (.bool (sgnB (dN (dI 8)))) := Hz.out.cell 0
  have z1 : X4b.cell? ⟨w7.heap.size, 1, none⟩ = some (.string (bs (nt (dN (dI 8)).natAbs))) := Hz.out.cell 1
  have z2 : X4b.cell? ⟨w7.heap.size, 2, none⟩ = some (.int .i64 (dE (dI 8))) := Hz.out.cell 2
  have l10 : X4b.cell? ⟨W7.heap.size, 0, none⟩ = some (.int .i64 0) := Hl1.out.cell 0
  have l11 : X4b.cell? ⟨W7.heap.size, 1, none⟩ = some (.int .i64 4) := Hl1.out.cell 1
  have l12 : X4b.cell? ⟨W7.heap.size, 2, none⟩ = some (.int .i64 6) := Hl1.out.cell 2
  have l20 : X4b.cell? ⟨X1c.heap.size, 0, none⟩ = some (.int .i64 0) := Hl2.out.cell 0
  have l21 : X4b.cell? ⟨X1c.heap.size, 1, none⟩ = some (.int .i64 6) := Hl2.out.cell 1
  have l22 : X4b.cell? ⟨X1c.heap.size, 2, none⟩ = some (.int .i64 8) := Hl2.out.cell 2
  have l30 : X4b.cell? ⟨X2c.heap.size, 0, none⟩ = some (.int .i64 0) := Hl3.out.cell 0
  have l31 : X4b.cell? ⟨X2c.heap.size, 1, none⟩ = some (.int .i64 4) := Hl3.out.cell 1
  have l32 : X4b.cell? ⟨X2c.heap.size, 2, none⟩ = some (.int .i64 8) := Hl3.out.cell 2
  have l33 : X4b.cell? ⟨X2c.heap.size, 3, none⟩ = some (.int .i64 4) := Hl3.out.cell 3
  have l34 : X4b.cell? ⟨X2c.heap.size, 4, none⟩ = some (.int .i64 12) := Hl3.out.cell 4
  have l35 : X4b.cell? ⟨X2c.heap.size, 5, none⟩ = some (.int .i64 8) := Hl3.out.cell 5
  have l40 : X4b.cell? ⟨X3c.heap.size, 0, none⟩ = some (.int .i64 4) := Hl4.out.cell 0
  have l41 : X4b.cell? ⟨X3c.heap.size, 1, none⟩ = some (.int .i64 8) := Hl4.out.cell 1
  replace Hb := Lib.hid (bnext Hb.out hbn); clear hbn
  refine hK _ _ (fun _ => ⟨p0, p1, p2, q0, q1, q2, c0, c1, c2, u0, u1, u2, z0, z1, z2⟩) ?_; clear hK K
  try simp only [Act.put, List.setIfInBounds_toArray, List.set_cons_zero, List.set_cons_succ]
  refine planF rfl rfl (fun K hK => ?_)
  go_simp
  with_reducible refine (aw_same [4, 8] 1 1 (some ⟨r3, 0, none⟩) ol4 2 2 cl4 _ rfl (by decide) HA4.out hat).mono ?_
  rintro e X4c ⟨rfl, hq⟩
  have hbn : Below X4b.heap.size X4b X4c := (by first | exact hq | exact bundrew hq); clear hq
  clear f0 f1 f2
  clear p0 p1 p2
  clear q0 q1 q2
  clear c0 c1 c2
  clear u0 u1 u2
  clear z0 z1 z2
  clear l10 l11 l12
  clear l20 l21 l22
  clear l30 l31 l32 l33 l34 l35
  clear l40 l41
  replace HA := Lib.hid (HA.out.below hbn)
  replace HT := Lib.hid (HT.out.below hbn)
  replace Hf := Lib.hid (Hf.out.below hbn)
  replace HA1 := Lib.hid (HA1.out.below hbn)
  replace HA2 := Lib.hid (HA2.out.below hbn)
  replace Hp := Lib.hid (Hp.out.below hbn)
  replace Hq := Lib.hid (Hq.out.below hbn)
  replace HA3 := Lib.hid (HA3.out.below hbn)
  replace Hc := Lib.hid (Hc.out.below hbn)
  replace HA4 := Lib.hid (HA4.out.below hbn)
  replace Hu := Lib.hid (Hu.out.below hbn)
  replace Hz := Lib.hid (Hz.out.below hbn)
  replace Hl1 := Lib.hid (Hl1.out.below hbn)
  replace Hl2 := Lib.hid (Hl2.out.below hbn)
  replace Hl3 := Lib.hid (Hl3.out.below hbn)
  replace Hl4 := Lib.hid (Hl4.out.below hbn)
  have f0 : X4c.cell? ⟨w1.heap.size, 0, none⟩ = some (.int .i64 2) := Hf.out.cell 0
  have f1 : X4c.cell? ⟨w1.heap.size, 1, none⟩ = some (.int .i64 1) := Hf.out.cell 1
  have f2 : X4c.cell? ⟨w1.heap.size, 2, none⟩ = some (.slice a0 3 cap0) := Hf.out.cell 2
  have p0 : X4c.cell? ⟨w2.heap.size, 0, none⟩ = some (.int .i64 2) := Hp.out.cell 0
  have p1 : X4c.cell? ⟨w2.heap.size, 1, none⟩ = some (.int .i64 1) := Hp.out.cell 1
  have p2 : X4c.cell? ⟨w2.heap.size, 2, none⟩ = some (.slice (some ⟨r, 0, none⟩) 3 3) := Hp.out.cell 2
  have q0 : X4c.cell? ⟨w2.heap.size + 1, 0, none⟩ = some (.int .i64 2) := Hq.out.cell 0
  have q1 : X4c.cell? ⟨w2.heap.size + 1, 1, none⟩ = some (.int .i64 1) := Hq.out.cell 1
  have q2 : X4c.cell? ⟨w2.heap.size + 1, 2, none⟩ = some (.slice (some ⟨s, 0, none⟩) 3 3) := Hq.out.cell 2
  have c0 : X4c.cell? ⟨w5.heap.size, 0, none⟩ = some (.int .i64 2) := Hc.out.cell 0
  have c1 : X4c.cell? ⟨w5.heap.size, 1, none⟩ = some (.int .i64 2) := Hc.out.cell 1
  have c2 : X4c.cell? ⟨w5.heap.size, 2, none⟩ = some (.slice (some ⟨r2, 0, none⟩) 6 6) := Hc.out.cell 2
  have u0 : X4c.cell? ⟨w6.heap.size, 0, none⟩ = some (.int .i64 1) := Hu.out.cell 0
  have u1 : X4c.cell? ⟨w6.heap.size, 1, none⟩ = some (.int .i64 1) := Hu.out.cell 1
  have u2 : X4c.cell? ⟨w6.heap.size, 2, none⟩ = some (.slice (some ⟨r3, 0, none⟩) 2 2) := Hu.out.cell 2
  have z0 : X4c.cell? ⟨w7.heap.size, 0, none⟩ = some (.bool (sgnB (dN (dI 8)))) := Hz.out.cell 0
  have z1 : X4c.cell? ⟨w7.heap.size, 1, none⟩ = some (.string (bs (nt (dN (dI 8)).natAbs))) := Hz.out.cell 1
  have z2 : X4c.cell? ⟨w7.heap.size, 2, none⟩ = some (.int .i64 (dE (dI 8))) := Hz.out.cell 2
  have l10 : X4c.cell? ⟨W7.heap.size, 0, none⟩ = some (.int .i64 0) := Hl1.out.cell 0
  have l11 : X4c.cell? ⟨W7.heap.size, 1, none⟩ = some (.int .i64 4) := Hl1.out.cell 1
  have l12 : X4c.cell? ⟨W7.heap.size, 2, none⟩ = some (.int .i64 6) := Hl1.out.cell 2
  have l20 : X4c.cell? ⟨X1c.heap.size, 0, none⟩ = some (.int .i64 0) := Hl2.out.cell 0
  have l21 : X4c.cell? ⟨X1c.heap.size, 1, none⟩ = some (.int .i64 6) := Hl2.out.cell 1
  have l22 : X4c.cell? ⟨X1c.heap.size, 2, none⟩ = some (.int .i64 8) := Hl2.out.cell 2
  have l30 : X4c.cell? ⟨X2c.heap.size, 0, none⟩ = some (.int .i64 0) := Hl3.out.cell 0
  have l31 : X4c.cell? ⟨X2c.heap.size, 1, none⟩ = some (.int .i64 4) := Hl3.out.cell 1
  have l32 : X4c.cell? ⟨X2c.heap.size, 2, none⟩ = some (.int .i64 8) := Hl3.out.cell 2
  have l33 : X4c.cell? ⟨X2c.heap.size, 3, none⟩ = some (.int .i64 4) := Hl3.out.cell 3
  have l34 : X4c.cell? ⟨X2c.heap.size, 4, none⟩ = some (.int .i64 12) := Hl3.out.cell 4
  have l35 : X4c.cell? ⟨X2c.heap.size, 5, none⟩ = some (.int .i64 8) := Hl3.out.cell 5
  have l40 : X4c.cell? ⟨X3c.heap.size, 0, none⟩ = some (.int .i64 4) := Hl4.out.cell 0
  have l41 : X4c.cell? ⟨X3c.heap.size, 1, none⟩ = some (.int .i64 8) := Hl4.out.cell 1
  replace Hb := Lib.hid (bnext Hb.out hbn); clear hbn
  refine hK _ _ (fun _ => ⟨p0, p1, p2, q0, q1, q2, c0, c1, c2, u0, u1, u2, z0, z1, z2⟩) ?_; clear hK K
  try simp only [Act.put, List.setIfInBounds_toArray, List.set_cons_zero, List.set_cons_succ]
  refine planT rfl rfl (v := ?_) (fun w' hw' => ?_) ?_; rotate_left; focus (go_simp; try with_reducible rfl)
  try simp only [Act.put, List.setIfInBounds_toArray, List.set_cons_zero, List.set_cons_succ]
  refine planT rfl rfl (v := ?_) (fun w' hw' => ?_) ?_; rotate_left; focus (go_simp; try with_reducible rfl)
  try simp only [Act.put, List.setIfInBounds_toArray, List.set_cons_zero, List.set_cons_succ]
  refine planT rfl rfl (v := ?_) (fun w' hw' => ?_) ?_; rotate_left; focus (go_simp; try with_reducible rfl)
  try simp only [Act.put, List.setIfInBounds_toArray, List.set_cons_zero, List.set_cons_succ]
  refine planT rfl rfl (v := ?_) (fun w' hw' => ?_) ?_; rotate_left; focus (go_simp; try with_reducible rfl)
  try simp only [Act.put, List.setIfInBounds_toArray, List.set_cons_zero, List.set_cons_succ]
  refine planT rfl rfl (v := ?_) (fun w' hw' => ?_) ?_; rotate_left; focus (go_simp; try with_reducible rfl)
  try simp only [Act.put, List.setIfInBounds_toArray, List.set_cons_zero, List.set_cons_succ]
  refine planT rfl rfl (v := ?_) (fun w' hw' => ?_) ?_; rotate_left; focus (go_simp; try with_reducible rfl)
  try simp only [Act.put, List.setIfInBounds_toArray, List.set_cons_zero, List.set_cons_succ]
  refine planT rfl rfl (v := ?_) (fun w' hw' => ?_) ?_; rotate_left; focus (obtain ⟨q0, q1, q2, q3, q4, q5, q6, q7, q8, q9, q10, q11, q12, q13, q14⟩ := hw'; go_simp; try with_reducible rfl)
  try simp only [Act.put, List.setIfInBounds_toArray, List.set_cons_zero, List.set_cons_succ]
  refine planF rfl rfl (fun K hK => ?_)
  go_simp
  with_reducible refine (aw_num _).mono ?_
  rintro e X5 ⟨rfl, hq⟩
  have hbn : Below X4c.heap.size X4c X5 := (by first | exact hq | exact bundrew hq); clear hq
  clear f0 f1 f2
  clear p0 p1 p2
  clear q0 q1 q2
  clear c0 c1 c2
  clear u0 u1 u2
  clear z0 z1 z2
  clear l10 l11 l12
  clear l20 l21 l22
  clear l30 l31 l32 l33 l34 l35
  clear l40 l41
  replace HA := Lib.hid (HA.out.below hbn)
  replace HT := Lib.hid (HT.out.below hbn)
  replace Hf := Lib.hid (Hf.out.below hbn)
  replace HA1 := Lib.hid (HA1.out.below hbn)
  replace HA2 := Lib.hid (HA2.out.below hbn)
  replace Hp := Lib.hid (Hp.out.below hbn)
  replace Hq := Lib.hid (Hq.out.below hbn)
  replace HA3 := Lib.hid (HA3.out.below hbn)
  replace Hc := Lib.hid (Hc.out.below hbn)
  replace HA4 := Lib.hid (HA4.out.below hbn)
  replace Hu := Lib.hid (Hu.out.below hbn)
  replace Hz := Lib.hid (Hz.out.below hbn)
  replace Hl1 := Lib.hid (Hl1.out.below hbn)
  replace Hl2 := Lib.hid (Hl2.out.below hbn)
  replace Hl3 := Lib.hid (Hl3.out.below hbn)
  replace Hl4 := Lib.hid (Hl4.out.below hbn)
  have f0 : X5.cell? ⟨w1.heap.size, 0, none⟩ = some (.int .i64 2) := Hf.out.cell 0
  have f1 : X5.cell? ⟨w1.heap.size, 1, none⟩ = some (.int .i64 1) := Hf.out.cell 1
  have f2 : X5.cell? ⟨w1.heap.size, 2, none⟩ = some (.slice a0 3 cap0) := Hf.out.cell 2
  have p0 : X5.cell? ⟨w2.heap.size, 0, none⟩ = some (.int .i64 2) := Hp.out.cell 0
  have p1 : X5.cell? ⟨w2.heap.size, 1, none⟩ = some (.int .i64 1) := Hp.out.cell 1
  have p2 : X5.cell? ⟨w2.heap.size, 2, none⟩ = some (.slice (some ⟨r, 0, none⟩) 3 3) := Hp.out.cell 2
  have q0 : X5.cell? ⟨w2.heap.size + 1, 0, none⟩ = some (.int .i64 2) := Hq.out.cell 0
  have q1 : X5.cell? ⟨w2.heap.size + 1, 1, none⟩ = some (.int .i64 1) := Hq.out.cell 1
  have q2 : X5.cell? ⟨w2.heap.size + 1, 2, none⟩ = some (.slice (some ⟨s, 0, none⟩) 3 3) := Hq.out.cell 2
  have c0 : X5.cell? ⟨w5.heap.size, 0, none⟩ = some (.int .i64 2) := Hc.out.cell 0
  have c1 : X5.cell? ⟨w5.heap.size, 1, none⟩ = some (.int .i64 2) := Hc.out.cell 1
  have c2 : X5.cell? ⟨w5.heap.size, 2, none⟩ = some (.slice (some ⟨r2, 0, none⟩) 6 6) := Hc.out.cell 2
  have u0 : X5.cell? ⟨w6.heap.size, 0, none⟩ = some (.int .i64 1) := Hu.out.cell 0
  have u1 : X5.cell? ⟨w6.heap.size, 1, none⟩ = some (.int .i64 1) := Hu.out.cell 1
  have u2 : X5.cell? ⟨w6.heap.size, 2, none⟩ = some (.slice (some ⟨r3, 0, none⟩) 2 2) := Hu.out.cell 2
  have z0 : X5.cell? ⟨w7.heap.size, 0, none⟩ = some (.bool (sgnB (dN (dI 8)))) := Hz.out.cell 0
  have z1 : X5.cell? ⟨w7.heap.size, 1, none⟩ = some (.string (bs (nt (dN (dI 8)).natAbs))) := Hz.out.cell 1
  have z2 : X5.cell? ⟨w7.heap.size, 2, none⟩ = some (.int .i64 (dE (dI 8))) := Hz.out.cell 2
  have l10 : X5.cell? ⟨W7.heap.size, 0, none⟩ = some (.int .i64 0) := Hl1.out.cell 0
  have l11 : X5.cell? ⟨W7.heap.size, 1, none⟩ = some (.int .i64 4) := Hl1.out.cell 1
  have l12 : X5.cell? ⟨W7.heap.size, 2, none⟩ = some (.int .i64 6) := Hl1.out.cell 2
  have l20 : X5.cell? ⟨X1c.heap.size, 0, none⟩ = some (.int .i64 0) := Hl2.out.cell 0
  have l21 : X5.cell? ⟨X1c.heap.size, 1, none⟩ = some (.int .i64 6) := Hl2.out.cell 1
  have l22 : X5.cell? ⟨X1c.heap.size, 2, none⟩ = some (.int .i64 8) := Hl2.out.cell 2
  have l30 : X5.cell? ⟨X2c.heap.size, 0, none⟩ = some (.int .i64 0) := Hl3.out.cell 0
  have l31 : X5.cell? ⟨X2c.heap.size, 1, none⟩ = some (.int .i64 4) := Hl3.out.cell 1
  have l32 : X5.cell? ⟨X2c.heap.size, 2, none⟩ = some (.int .i64 8) := Hl3.out.cell 2
  have l33 : X5.cell? ⟨X2c.heap.size, 3, none⟩ = some (.int .i64 4) := Hl3.out.cell 3
  have l34 : X5.cell? ⟨X2c.heap.size, 4, none⟩ = some (.int .i64 12) := Hl3.out.cell 4
  have l35 : X5.cell? ⟨X2c.heap.size, 5, none⟩ = some (.int .i64 8) := Hl3.out.cell 5
  have l40 : X5.cell? ⟨X3c.heap.size, 0, none⟩ = some (.int .i64 4) := Hl4.out.cell 0
  have l41 : X5.cell? ⟨X3c.heap.size, 1, none⟩ = some (.int .i64 8) := Hl4.out.cell 1
  replace Hb := Lib.hid (bnext Hb.out hbn); clear hbn
  refine hK _ _ (fun _ => ⟨p0, p1, p2, q0, q1, q2, c0, c1, c2, u0, u1, u2, z0, z1, z2⟩) ?_; clear hK K
  try simp only [Act.put, List.setIfInBounds_toArray, List.set_cons_zero, List.set_cons_succ]
  refine planT rfl rfl (v := ?_) (fun w' hw' => ?_) ?_; rotate_left; focus (go_simp; try with_reducible rfl)
  try simp only [Act.put, List.setIfInBounds_toArray, List.set_cons_zero, List.set_cons_succ]
  refine planT rfl rfl (v := ?_) (fun w' hw' => ?_) ?_; rotate_left; focus (go_simp; try with_reducible rfl)
  try simp only [Act.put, List.setIfInBounds_toArray, List.set_cons_zero, List.set_cons_succ]
  refine planT rfl rfl (v := ?_) (fun w' hw' => ?_) ?_; rotate_left; focus (go_simp; try with_reducible rfl)
  try simp only [Act.put, List.setIfInBounds_toArray, List.set_cons_zero, List.set_cons_succ]
  refine planT rfl rfl (v := ?_) (fun w' hw' => ?_) ?_; rotate_left; focus (go_simp; try with_reducible rfl)
  try simp only [Act.put, List.setIfInBounds_toArray, List.set_cons_zero, List.set_cons_succ]
  refine planT rfl rfl (v := ?_) (fun w' hw' => ?_) ?_; rotate_left; focus (go_simp; try with_reducible rfl)
  try simp only [Act.put, List.setIfInBounds_toArray, List.set_cons_zero, List.set_cons_succ]
  refine planT rfl rfl (v := ?_) (fun w' hw' => ?_) ?_; rotate_left; focus (go_simp; try with_reducible rfl)
  try simp only [Act.put, List.setIfInBounds_toArray, List.set_cons_zero, List.set_cons_succ]
  refine planT rfl rfl (v := ?_) (fun w' hw' => ?_) ?_; rotate_left; focus (go_simp; try with_reducible rfl)
  try simp only [Act.put, List.setIfInBounds_toArray, List.set_cons_zero]
  simp only [wpPlan]
  go_wp2
  refine bodyPost_ret (v := .bool true) (by simp [results, Tryz.results6, go_sem]) rfl ⟨rfl, ?_⟩
  (repeat first | exact Hb.out | (refine Below.setCell ?_ (by have := Hb.out.size; first | (dsimp only; omega) | (show _ ≤ _; omega) | (simp <;> omega)) _) | (refine Below.alloc ?_ (by have := Hb.out.size; simp <;> omega) _) | refine Below.drew ?_)
end Go.Proofs.YtidjljldhdckiaaGreatDoor
