/- Package scast: Add. -/
import Derived.Test.YtidjljldhdckiaaGreatDoorKScast9
namespace Go.Proofs.YtidjljldhdckiaaGreatDoor
open Go.RowKit
attribute [local go_sem ↓] Go.wp_at_zero Go.wp_at_succ

theorem idx_two0 (x y z x' y' z' : Value) (W : World) : (Instr.index 72 (.agg #[x, y, z, x', y', z']) (.int .i64 0)).run Tryz.prog W = .ok (.agg #[x, y, z]) W := by kernel_rfl
theorem idx_two1 (x y z x' y' z' : Value) (W : World) : (Instr.index 72 (.agg #[x, y, z, x', y', z']) (.int .i64 1)).run Tryz.prog W = .ok (.agg #[x', y', z']) W := by kernel_rfl

set_option maxHeartbeats 4000000 in
set_option maxRecDepth 100000 in
theorem add_bad (v d : Int) (a : Option Addr) (n cap : Nat) (v' d' : Int) (a' : Option Addr) (n' cap' : Nat) (c : Int) (w : World) (hc : chk v d n = 0) (hc' : chk v' d' n' = c) (h0 : (c != 0) = true) :
    Calls Tryz.prog 11 #[.agg #[.int .i64 v, .int .i64 d, .slice a n cap], .agg #[.int .i64 v', .int .i64 d', .slice a' n' cap']] w fun e w' => e = .returned (.tuple #[sf0, .int .i64 c]) ∧ Below w.heap.size w w' := by
  have Hc := Lib.hid hc; have Hc' := Lib.hid hc'; clear hc hc'
  have ix0 := idx_two0 (.int .i64 v) (.int .i64 d) (.slice a n cap) (.int .i64 v') (.int .i64 d') (.slice a' n' cap')
  have ix1 := idx_two1 (.int .i64 v) (.int .i64 d) (.slice a n cap) (.int .i64 v') (.int .i64 d') (.slice a' n' cap')
  obtain ⟨W, hW_W⟩ : ∃ W, (((w.alloc (.cells #[.int .i64 v, .int .i64 d, .slice a n cap] 24)).alloc (.cells #[.int .i64 v', .int .i64 d', .slice a' n' cap'] 24)).alloc (.cells #[.int .i64 0, .int .i64 0, .slice none 0 0] 24)) = W := ⟨_, rfl⟩
  have Hb : Hid (Below w.heap.size w W) := by rw [← hW_W]; exact ((((Below.refl _ _).alloc (Nat.le_refl _) _).alloc (by simp <;> omega) _).alloc (by simp <;> omega) _)
  have Hf : Hid (Blk W (w.heap.size) 24 [.int .i64 v, .int .i64 d, .slice a n cap]) := by rw [← hW_W]; exact ((Blk.newAt _ _ _ (by simp)).alloc _).alloc _
  have Hg : Hid (Blk W (w.heap.size + 1) 24 [.int .i64 v', .int .i64 d', .slice a' n' cap']) := by rw [← hW_W]; exact (Blk.newAt _ _ _ (by simp)).alloc _
  have Hr : Hid (Blk W (w.heap.size + 1 + 1) 24 [.int .i64 0, .int .i64 0, .slice none 0 0]) := by rw [← hW_W]; exact Blk.newAt _ _ _ (by simp)
  have f0 : W.cell? ⟨w.heap.size, 0, none⟩ = some (.int .i64 v) := Hf.out.cell 0
  have f1 : W.cell? ⟨w.heap.size, 1, none⟩ = some (.int .i64 d) := Hf.out.cell 1
  have f2 : W.cell? ⟨w.heap.size, 2, none⟩ = some (.slice a n cap) := Hf.out.cell 2
  have g0 : W.cell? ⟨w.heap.size + 1, 0, none⟩ = some (.int .i64 v') := Hg.out.cell 0
  have g1 : W.cell? ⟨w.heap.size + 1, 1, none⟩ = some (.int .i64 d') := Hg.out.cell 1
  have g2 : W.cell? ⟨w.heap.size + 1, 2, none⟩ = some (.slice a' n' cap') := Hg.out.cell 2
  have r0 : W.cell? ⟨w.heap.size + 1 + 1, 0, none⟩ = some (.int .i64 0) := Hr.out.cell 0
  have fr0 : W.frozen? ⟨w.heap.size + 1 + 1, 0, none⟩ = false := Hr.out.free 0
  have r1 : W.cell? ⟨w.heap.size + 1 + 1, 1, none⟩ = some (.int .i64 0) := Hr.out.cell 1
  have fr1 : W.frozen? ⟨w.heap.size + 1 + 1, 1, none⟩ = false := Hr.out.free 1
  have r2 : W.cell? ⟨w.heap.size + 1 + 1, 2, none⟩ = some (.slice none 0 0) := Hr.out.cell 2
  have fr2 : W.frozen? ⟨w.heap.size + 1 + 1, 2, none⟩ = false := Hr.out.free 2
  go_enter Tryz.func11, Tryz.ntmps11
  go_wp2_with fail
  refine wp_loop_rounds 2 ?_
  rw [rounds_succ]
  have lz_f_W1 : w.heap.size < W.heap.size := Hf.out.lt
  have lz_g_W1 : w.heap.size + 1 < W.heap.size := Hg.out.lt
  have lz_r_W1 : w.heap.size + 1 + 1 < W.heap.size := Hr.out.lt
  obtain ⟨W1, hW_W1⟩ : ∃ W1, (W.alloc (.cells #[.int .i64 v, .int .i64 d, .slice a n cap] 24)) = W1 := ⟨_, rfl⟩
  have hbn : Below W.heap.size W W1 := by rw [← hW_W1]; exact ((Below.refl _ _).alloc (Nat.le_refl _) _)
  clear f0 f1 f2
  replace Hf := Lib.hid (Hf.out.below hbn)
  clear g0 g1 g2
  replace Hg := Lib.hid (Hg.out.below hbn)
  clear r0 fr0 r1 fr1 r2 fr2
  replace Hr := Lib.hid (Hr.out.below hbn)
  have Hx : Hid (Blk W1 (W.heap.size) 24 [.int .i64 v, .int .i64 d, .slice a n cap]) := by rw [← hW_W1]; exact Blk.newAt _ _ _ (by simp)
  have f0 : W1.cell? ⟨w.heap.size, 0, none⟩ = some (.int .i64 v) := Hf.out.cell 0
  have f1 : W1.cell? ⟨w.heap.size, 1, none⟩ = some (.int .i64 d) := Hf.out.cell 1
  have f2 : W1.cell? ⟨w.heap.size, 2, none⟩ = some (.slice a n cap) := Hf.out.cell 2
  have g0 : W1.cell? ⟨w.heap.size + 1, 0, none⟩ = some (.int .i64 v') := Hg.out.cell 0
  have g1 : W1.cell? ⟨w.heap.size + 1, 1, none⟩ = some (.int .i64 d') := Hg.out.cell 1
  have g2 : W1.cell? ⟨w.heap.size + 1, 2, none⟩ = some (.slice a' n' cap') := Hg.out.cell 2
  have r0 : W1.cell? ⟨w.heap.size + 1 + 1, 0, none⟩ = some (.int .i64 0) := Hr.out.cell 0
  have fr0 : W1.frozen? ⟨w.heap.size + 1 + 1, 0, none⟩ = false := Hr.out.free 0
  have r1 : W1.cell? ⟨w.heap.size + 1 + 1, 1, none⟩ = some (.int .i64 0) := Hr.out.cell 1
  have fr1 : W1.frozen? ⟨w.heap.size + 1 + 1, 1, none⟩ = false := Hr.out.free 1
  have r2 : W1.cell? ⟨w.heap.size + 1 + 1, 2, none⟩ = some (.slice none 0 0) := Hr.out.cell 2
  have fr2 : W1.frozen? ⟨w.heap.size + 1 + 1, 2, none⟩ = false := Hr.out.free 2
  have x0 : W1.cell? ⟨W.heap.size, 0, none⟩ = some (.int .i64 v) := Hx.out.cell 0
  have x1 : W1.cell? ⟨W.heap.size, 1, none⟩ = some (.int .i64 d) := Hx.out.cell 1
  have x2 : W1.cell? ⟨W.heap.size, 2, none⟩ = some (.slice a n cap) := Hx.out.cell 2
  replace Hb := Lib.hid (bnext Hb.out hbn); clear hbn
  go_wp2_with fail
  refine (check_any v d a n cap 0 Hc.out _).mono ?_
  rintro e w1 ⟨rfl, hbn⟩
  clear f0 f1 f2
  clear g0 g1 g2
  clear r0 fr0 r1 fr1 r2 fr2
  clear x0 x1 x2
  replace Hf := Lib.hid (Hf.out.below hbn)
  replace Hg := Lib.hid (Hg.out.below hbn)
  replace Hr := Lib.hid (Hr.out.below hbn)
  replace Hx := Lib.hid (Hx.out.below hbn)
  have f0 : w1.cell? ⟨w.heap.size, 0, none⟩ = some (.int .i64 v) := Hf.out.cell 0
  have f1 : w1.cell? ⟨w.heap.size, 1, none⟩ = some (.int .i64 d) := Hf.out.cell 1
  have f2 : w1.cell? ⟨w.heap.size, 2, none⟩ = some (.slice a n cap) := Hf.out.cell 2
  have g0 : w1.cell? ⟨w.heap.size + 1, 0, none⟩ = some (.int .i64 v') := Hg.out.cell 0
  have g1 : w1.cell? ⟨w.heap.size + 1, 1, none⟩ = some (.int .i64 d') := Hg.out.cell 1
  have g2 : w1.cell? ⟨w.heap.size + 1, 2, none⟩ = some (.slice a' n' cap') := Hg.out.cell 2
  have r0 : w1.cell? ⟨w.heap.size + 1 + 1, 0, none⟩ = some (.int .i64 0) := Hr.out.cell 0
  have fr0 : w1.frozen? ⟨w.heap.size + 1 + 1, 0, none⟩ = false := Hr.out.free 0
  have r1 : w1.cell? ⟨w.heap.size + 1 + 1, 1, none⟩ = some (.int .i64 0) := Hr.out.cell 1
  have fr1 : w1.frozen? ⟨w.heap.size + 1 + 1, 1, none⟩ = false := Hr.out.free 1
  have r2 : w1.cell? ⟨w.heap.size + 1 + 1, 2, none⟩ = some (.slice none 0 0) := Hr.out.cell 2
  have fr2 : w1.frozen? ⟨w.heap.size + 1 + 1, 2, none⟩ = false := Hr.out.free 2
  have x0 : w1.cell? ⟨W.heap.size, 0, none⟩ = some (.int .i64 v) := Hx.out.cell 0
  have x1 : w1.cell? ⟨W.heap.size, 1, none⟩ = some (.int .i64 d) := Hx.out.cell 1
  have x2 : w1.cell? ⟨W.heap.size, 2, none⟩ = some (.slice a n cap) := Hx.out.cell 2
  replace Hb := Lib.hid (bnext Hb.out hbn); clear hbn
  go_wp2_with fail
  rw [rounds_succ]
  clear x0 x1 x2
  clear Hx
  have lz_f_W2 : w.heap.size < w1.heap.size := Hf.out.lt
  have lz_g_W2 : w.heap.size + 1 < w1.heap.size := Hg.out.lt
  have lz_r_W2 : w.heap.size + 1 + 1 < w1.heap.size := Hr.out.lt
  obtain ⟨W2, hW_W2⟩ : ∃ W2, (w1.alloc (.cells #[.int .i64 v', .int .i64 d', .slice a' n' cap'] 24)) = W2 := ⟨_, rfl⟩
  have hbn : Below w1.heap.size w1 W2 := by rw [← hW_W2]; exact ((Below.refl _ _).alloc (Nat.le_refl _) _)
  clear f0 f1 f2
  replace Hf := Lib.hid (Hf.out.below hbn)
  clear g0 g1 g2
  replace Hg := Lib.hid (Hg.out.below hbn)
  clear r0 fr0 r1 fr1 r2 fr2
  replace Hr := Lib.hid (Hr.out.below hbn)
  have Hy : Hid (Blk W2 (w1.heap.size) 24 [.int .i64 v', .int .i64 d', .slice a' n' cap']) := by rw [← hW_W2]; exact Blk.newAt _ _ _ (by simp)
  have f0 : W2.cell? ⟨w.heap.size, 0, none⟩ = some (.int .i64 v) := Hf.out.cell 0
  have f1 : W2.cell? ⟨w.heap.size, 1, none⟩ = some (.int .i64 d) := Hf.out.cell 1
  have f2 : W2.cell? ⟨w.heap.size, 2, none⟩ = some (.slice a n cap) := Hf.out.cell 2
  have g0 : W2.cell? ⟨w.heap.size + 1, 0, none⟩ = some (.int .i64 v') := Hg.out.cell 0
  have g1 : W2.cell? ⟨w.heap.size + 1, 1, none⟩ = some (.int .i64 d') := Hg.out.cell 1
  have g2 : W2.cell? ⟨w.heap.size + 1, 2, none⟩ = some (.slice a' n' cap') := Hg.out.cell 2
  have r0 : W2.cell? ⟨w.heap.size + 1 + 1, 0, none⟩ = some (.int .i64 0) := Hr.out.cell 0
  have fr0 : W2.frozen? ⟨w.heap.size + 1 + 1, 0, none⟩ = false := Hr.out.free 0
  have r1 : W2.cell? ⟨w.heap.size + 1 + 1, 1, none⟩ = some (.int .i64 0) := Hr.out.cell 1
  have fr1 : W2.frozen? ⟨w.heap.size + 1 + 1, 1, none⟩ = false := Hr.out.free 1
  have r2 : W2.cell? ⟨w.heap.size + 1 + 1, 2, none⟩ = some (.slice none 0 0) := Hr.out.cell 2
  have fr2 : W2.frozen? ⟨w.heap.size + 1 + 1, 2, none⟩ = false := Hr.out.free 2
  have y0 : W2.cell? ⟨w1.heap.size, 0, none⟩ = some (.int .i64 v') := Hy.out.cell 0
  have y1 : W2.cell? ⟨w1.heap.size, 1, none⟩ = some (.int .i64 d') := Hy.out.cell 1
  have y2 : W2.cell? ⟨w1.heap.size, 2, none⟩ = some (.slice a' n' cap') := Hy.out.cell 2
  replace Hb := Lib.hid (bnext Hb.out hbn); clear hbn
  go_wp2_with fail
  refine (check_any v' d' a' n' cap' c Hc'.out _).mono ?_
  rintro e w2 ⟨rfl, hbn⟩
  clear f0 f1 f2
  clear g0 g1 g2
  clear r0 fr0 r1 fr1 r2 fr2
  clear y0 y1 y2
  replace Hf := Lib.hid (Hf.out.below hbn)
  replace Hg := Lib.hid (Hg.out.below hbn)
  replace Hr := Lib.hid (Hr.out.below hbn)
  replace Hy := Lib.hid (Hy.out.below hbn)
  have f0 : w2.cell? ⟨w.heap.size, 0, none⟩ = some (.int .i64 v) := Hf.out.cell 0
  have f1 : w2.cell? ⟨w.heap.size, 1, none⟩ = some (.int .i64 d) := Hf.out.cell 1
  have f2 : w2.cell? ⟨w.heap.size, 2, none⟩ = some (.slice a n cap) := Hf.out.cell 2
  have g0 : w2.cell? ⟨w.heap.size + 1, 0, none⟩ = some (.int .i64 v') := Hg.out.cell 0
  have g1 : w2.cell? ⟨w.heap.size + 1, 1, none⟩ = some (.int .i64 d') := Hg.out.cell 1
  have g2 : w2.cell? ⟨w.heap.size + 1, 2, none⟩ = some (.slice a' n' cap') := Hg.out.cell 2
  have r0 : w2.cell? ⟨w.heap.size + 1 + 1, 0, none⟩ = some (.int .i64 0) := Hr.out.cell 0
  have fr0 : w2.frozen? ⟨w.heap.size + 1 + 1, 0, none⟩ = false := Hr.out.free 0
  have r1 : w2.cell? ⟨w.heap.size + 1 + 1, 1, none⟩ = some (.int .i64 0) := Hr.out.cell 1
  have fr1 : w2.frozen? ⟨w.heap.size + 1 + 1, 1, none⟩ = false := Hr.out.free 1
  have r2 : w2.cell? ⟨w.heap.size + 1 + 1, 2, none⟩ = some (.slice none 0 0) := Hr.out.cell 2
  have fr2 : w2.frozen? ⟨w.heap.size + 1 + 1, 2, none⟩ = false := Hr.out.free 2
  have y0 : w2.cell? ⟨w1.heap.size, 0, none⟩ = some (.int .i64 v') := Hy.out.cell 0
  have y1 : w2.cell? ⟨w1.heap.size, 1, none⟩ = some (.int .i64 d') := Hy.out.cell 1
  have y2 : w2.cell? ⟨w1.heap.size, 2, none⟩ = some (.slice a' n' cap') := Hy.out.cell 2
  replace Hb := Lib.hid (bnext Hb.out hbn); clear hbn
  go_wp2
  clear f0 f1 f2
  clear g0 g1 g2
  clear r0 fr0 r1 fr1 r2 fr2
  clear y0 y1 y2
  refine body_world (fun w9 => Blk w9 (w.heap.size) 24 [.int .i64 v, .int .i64 d, .slice a n cap] ∧ Blk w9 (w.heap.size + 1) 24 [.int .i64 v', .int .i64 d', .slice a' n' cap'] ∧ Blk w9 (w.heap.size + 1 + 1) 24 [.int .i64 0, .int .i64 0, .slice none 0 0] ∧ Blk w9 (w1.heap.size) 24 [.int .i64 v', .int .i64 d', .slice a' n' cap'] ∧ Below w.heap.size w w9) ⟨(((Hf.out.set_other ⟨w.heap.size + 1 + 1, 0, none⟩ (by first | (dsimp only; omega) | (show _ ≠ _; omega) | (simp <;> omega)) _).set_other ⟨w.heap.size + 1 + 1, 1, none⟩ (by first | (dsimp only; omega) | (show _ ≠ _; omega) | (simp <;> omega)) _).set_other ⟨w.heap.size + 1 + 1, 2, none⟩ (by first | (dsimp only; omega) | (show _ ≠ _; omega) | (simp <;> omega)) _), (((Hg.out.set_other ⟨w.heap.size + 1 + 1, 0, none⟩ (by first | (dsimp only; omega) | (show _ ≠ _; omega) | (simp <;> omega)) _).set_other ⟨w.heap.size + 1 + 1, 1, none⟩ (by first | (dsimp only; omega) | (show _ ≠ _; omega) | (simp <;> omega)) _).set_other ⟨w.heap.size + 1 + 1, 2, none⟩ (by first | (dsimp only; omega) | (show _ ≠ _; omega) | (simp <;> omega)) _), (((Hr.out.set 0 _).set 1 _).set 2 _), (((Hy.out.set_other ⟨w.heap.size + 1 + 1, 0, none⟩ (by first | (dsimp only; omega) | (show _ ≠ _; omega) | (simp <;> omega)) _).set_other ⟨w.heap.size + 1 + 1, 1, none⟩ (by first | (dsimp only; omega) | (show _ ≠ _; omega) | (simp <;> omega)) _).set_other ⟨w.heap.size + 1 + 1, 2, none⟩ (by first | (dsimp only; omega) | (show _ ≠ _; omega) | (simp <;> omega)) _), (((Hb.out.setCell (p := ⟨w.heap.size + 1 + 1, 0, none⟩) (by have := Hb.out.size; first | (dsimp only; omega) | (show _ ≤ _; omega) | (simp <;> omega)) _).setCell (p := ⟨w.heap.size + 1 + 1, 1, none⟩) (by have := Hb.out.size; first | (dsimp only; omega) | (show _ ≤ _; omega) | (simp <;> omega)) _).setCell (p := ⟨w.heap.size + 1 + 1, 2, none⟩) (by have := Hb.out.size; first | (dsimp only; omega) | (show _ ≤ _; omega) | (simp <;> omega)) _)⟩ ?_
  rintro w9 ⟨qf, qg, qr, qy, hbn⟩
  replace Hf := Lib.hid qf; clear qf
  replace Hg := Lib.hid qg; clear qg
  replace Hr := Lib.hid qr; clear qr
  replace Hy := Lib.hid qy; clear qy
  have f0 : w9.cell? ⟨w.heap.size, 0, none⟩ = some (.int .i64 v) := Hf.out.cell 0
  have f1 : w9.cell? ⟨w.heap.size, 1, none⟩ = some (.int .i64 d) := Hf.out.cell 1
  have f2 : w9.cell? ⟨w.heap.size, 2, none⟩ = some (.slice a n cap) := Hf.out.cell 2
  have g0 : w9.cell? ⟨w.heap.size + 1, 0, none⟩ = some (.int .i64 v') := Hg.out.cell 0
  have g1 : w9.cell? ⟨w.heap.size + 1, 1, none⟩ = some (.int .i64 d') := Hg.out.cell 1
  have g2 : w9.cell? ⟨w.heap.size + 1, 2, none⟩ = some (.slice a' n' cap') := Hg.out.cell 2
  have r0 : w9.cell? ⟨w.heap.size + 1 + 1, 0, none⟩ = some (.int .i64 0) := Hr.out.cell 0
  have fr0 : w9.frozen? ⟨w.heap.size + 1 + 1, 0, none⟩ = false := Hr.out.free 0
  have r1 : w9.cell? ⟨w.heap.size + 1 + 1, 1, none⟩ = some (.int .i64 0) := Hr.out.cell 1
  have fr1 : w9.frozen? ⟨w.heap.size + 1 + 1, 1, none⟩ = false := Hr.out.free 1
  have r2 : w9.cell? ⟨w.heap.size + 1 + 1, 2, none⟩ = some (.slice none 0 0) := Hr.out.cell 2
  have fr2 : w9.frozen? ⟨w.heap.size + 1 + 1, 2, none⟩ = false := Hr.out.free 2
  have y0 : w9.cell? ⟨w1.heap.size, 0, none⟩ = some (.int .i64 v') := Hy.out.cell 0
  have y1 : w9.cell? ⟨w1.heap.size, 1, none⟩ = some (.int .i64 d') := Hy.out.cell 1
  have y2 : w9.cell? ⟨w1.heap.size, 2, none⟩ = some (.slice a' n' cap') := Hy.out.cell 2
  replace Hb := Lib.hid hbn; clear hbn
  refine bodyPost_ret (v := .tuple #[sf0, .int .i64 c]) (by simp [results, Tryz.results11, go_sem, r0, r1, r2]) rfl ⟨rfl, Hb.out⟩

set_option maxHeartbeats 4000000 in
set_option maxRecDepth 100000 in
theorem add_arg (v d : Int) (a : Option Addr) (n cap : Nat) (v' d' : Int) (a' : Option Addr) (n' cap' : Nat) (w : World) (hc : chk v d n = 0) (hc' : chk v' d' n' = 0) (h0 : v ≠ v' ∨ d ≠ d') :
    Calls Tryz.prog 11 #[.agg #[.int .i64 v, .int .i64 d, .slice a n cap], .agg #[.int .i64 v', .int .i64 d', .slice a' n' cap']] w fun e w' => e = .returned (.tuple #[sf0, .int .i64 1]) ∧ Below w.heap.size w w' := by
  have Hc := Lib.hid hc; have Hc' := Lib.hid hc'; clear hc hc'
  have ix0 := idx_two0 (.int .i64 v) (.int .i64 d) (.slice a n cap) (.int .i64 v') (.int .i64 d') (.slice a' n' cap')
  have ix1 := idx_two1 (.int .i64 v) (.int .i64 d) (.slice a n cap) (.int .i64 v') (.int .i64 d') (.slice a' n' cap')
  obtain ⟨t, ht⟩ : ∃ t, (v != v') = t := ⟨_, rfl⟩
  have h1 : t = false → (d != d') = true := by
    rintro rfl
    have : v = v' := by simpa using ht
    simp; omega
  clear h0
  obtain ⟨W, hW_W⟩ : ∃ W, (((w.alloc (.cells #[.int .i64 v, .int .i64 d, .slice a n cap] 24)).alloc (.cells #[.int .i64 v', .int .i64 d', .slice a' n' cap'] 24)).alloc (.cells #[.int .i64 0, .int .i64 0, .slice none 0 0] 24)) = W := ⟨_, rfl⟩
  have Hb : Hid (Below w.heap.size w W) := by rw [← hW_W]; exact ((((Below.refl _ _).alloc (Nat.le_refl _) _).alloc (by simp <;> omega) _).alloc (by simp <;> omega) _)
  have Hf : Hid (Blk W (w.heap.size) 24 [.int .i64 v, .int .i64 d, .slice a n cap]) := by rw [← hW_W]; exact ((Blk.newAt _ _ _ (by simp)).alloc _).alloc _
  have Hg : Hid (Blk W (w.heap.size + 1) 24 [.int .i64 v', .int .i64 d', .slice a' n' cap']) := by rw [← hW_W]; exact (Blk.newAt _ _ _ (by simp)).alloc _
  have Hr : Hid (Blk W (w.heap.size + 1 + 1) 24 [.int .i64 0, .int .i64 0, .slice none 0 0]) := by rw [← hW_W]; exact Blk.newAt _ _ _ (by simp)
  have f0 : W.cell? ⟨w.heap.size, 0, none⟩ = some (.int .i64 v) := Hf.out.cell 0
  have f1 : W.cell? ⟨w.heap.size, 1, none⟩ = some (.int .i64 d) := Hf.out.cell 1
  have f2 : W.cell? ⟨w.heap.size, 2, none⟩ = some (.slice a n cap) := Hf.out.cell 2
  have g0 : W.cell? ⟨w.heap.size + 1, 0, none⟩ = some (.int .i64 v') := Hg.out.cell 0
  have g1 : W.cell? ⟨w.heap.size + 1, 1, none⟩ = some (.int .i64 d') := Hg.out.cell 1
  have g2 : W.cell? ⟨w.heap.size + 1, 2, none⟩ = some (.slice a' n' cap') := Hg.out.cell 2
  have r0 : W.cell? ⟨w.heap.size + 1 + 1, 0, none⟩ = some (.int .i64 0) := Hr.out.cell 0
  have fr0 : W.frozen? ⟨w.heap.size + 1 + 1, 0, none⟩ = false := Hr.out.free 0
  have r1 : W.cell? ⟨w.heap.size + 1 + 1, 1, none⟩ = some (.int .i64 0) := Hr.out.cell 1
  have fr1 : W.frozen? ⟨w.heap.size + 1 + 1, 1, none⟩ = false := Hr.out.free 1
  have r2 : W.cell? ⟨w.heap.size + 1 + 1, 2, none⟩ = some (.slice none 0 0) := Hr.out.cell 2
  have fr2 : W.frozen? ⟨w.heap.size + 1 + 1, 2, none⟩ = false := Hr.out.free 2
  cases t
  all_goals
    first | have hdd := h1 rfl | skip
    clear h1
    go_enter Tryz.func11, Tryz.ntmps11
    go_wp2_with fail
    refine wp_loop_rounds 3 ?_
    rw [rounds_succ]
    have lz_f_W1 : w.heap.size < W.heap.size := Hf.out.lt
    have lz_g_W1 : w.heap.size + 1 < W.heap.size := Hg.out.lt
    have lz_r_W1 : w.heap.size + 1 + 1 < W.heap.size := Hr.out.lt
    obtain ⟨W1, hW_W1⟩ : ∃ W1, (W.alloc (.cells #[.int .i64 v, .int .i64 d, .slice a n cap] 24)) = W1 := ⟨_, rfl⟩
    have hbn : Below W.heap.size W W1 := by rw [← hW_W1]; exact ((Below.refl _ _).alloc (Nat.le_refl _) _)
    clear f0 f1 f2
    replace Hf := Lib.hid (Hf.out.below hbn)
    clear g0 g1 g2
    replace Hg := Lib.hid (Hg.out.below hbn)
    clear r0 fr0 r1 fr1 r2 fr2
    replace Hr := Lib.hid (Hr.out.below hbn)
    have Hx : Hid (Blk W1 (W.heap.size) 24 [.int .i64 v, .int .i64 d, .slice a n cap]) := by rw [← hW_W1]; exact Blk.newAt _ _ _ (by simp)
    have f0 : W1.cell? ⟨w.heap.size, 0, none⟩ = some (.int .i64 v) := Hf.out.cell 0
    have f1 : W1.cell? ⟨w.heap.size, 1, none⟩ = some (.int .i64 d) := Hf.out.cell 1
    have f2 : W1.cell? ⟨w.heap.size, 2, none⟩ = some (.slice a n cap) := Hf.out.cell 2
    have g0 : W1.cell? ⟨w.heap.size + 1, 0, none⟩ = some (.int .i64 v') := Hg.out.cell 0
    have g1 : W1.cell? ⟨w.heap.size + 1, 1, none⟩ = some (.int .i64 d') := Hg.out.cell 1
    have g2 : W1.cell? ⟨w.heap.size + 1, 2, none⟩ = some (.slice a' n' cap') := Hg.out.cell 2
    have r0 : W1.cell? ⟨w.heap.size + 1 + 1, 0, none⟩ = some (.int .i64 0) := Hr.out.cell 0
    have fr0 : W1.frozen? ⟨w.heap.size + 1 + 1, 0, none⟩ = false := Hr.out.free 0
    have r1 : W1.cell? ⟨w.heap.size + 1 + 1, 1, none⟩ = some (.int .i64 0) := Hr.out.cell 1
    have fr1 : W1.frozen? ⟨w.heap.size + 1 + 1, 1, none⟩ = false := Hr.out.free 1
    have r2 : W1.cell? ⟨w.heap.size + 1 + 1, 2, none⟩ = some (.slice none 0 0) := Hr.out.cell 2
    have fr2 : W1.frozen? ⟨w.heap.size + 1 + 1, 2, none⟩ = false := Hr.out.free 2
    have x0 : W1.cell? ⟨W.heap.size, 0, none⟩ = some (.int .i64 v) := Hx.out.cell 0
    have x1 : W1.cell? ⟨W.heap.size, 1, none⟩ = some (.int .i64 d) := Hx.out.cell 1
    have x2 : W1.cell? ⟨W.heap.size, 2, none⟩ = some (.slice a n cap) := Hx.out.cell 2
    replace Hb := Lib.hid (bnext Hb.out hbn); clear hbn
    go_wp2_with fail
    refine (check_any v d a n cap 0 Hc.out _).mono ?_
    rintro e w1 ⟨rfl, hbn⟩
    clear f0 f1 f2
    clear g0 g1 g2
    clear r0 fr0 r1 fr1 r2 fr2
    clear x0 x1 x2
    replace Hf := Lib.hid (Hf.out.below hbn)
    replace Hg := Lib.hid (Hg.out.below hbn)
    replace Hr := Lib.hid (Hr.out.below hbn)
    replace Hx := Lib.hid (Hx.out.below hbn)
    have f0 : w1.cell? ⟨w.heap.size, 0, none⟩ = some (.int .i64 v) := Hf.out.cell 0
    have f1 : w1.cell? ⟨w.heap.size, 1, none⟩ = some (.int .i64 d) := Hf.out.cell 1
    have f2 : w1.cell? ⟨w.heap.size, 2, none⟩ = some (.slice a n cap) := Hf.out.cell 2
    have g0 : w1.cell? ⟨w.heap.size + 1, 0, none⟩ = some (.int .i64 v') := Hg.out.cell 0
    have g1 : w1.cell? ⟨w.heap.size + 1, 1, none⟩ = some (.int .i64 d') := Hg.out.cell 1
    have g2 : w1.cell? ⟨w.heap.size + 1, 2, none⟩ = some (.slice a' n' cap') := Hg.out.cell 2
    have r0 : w1.cell? ⟨w.heap.size + 1 + 1, 0, none⟩ = some (.int .i64 0) := Hr.out.cell 0
    have fr0 : w1.frozen? ⟨w.heap.size + 1 + 1, 0, none⟩ = false := Hr.out.free 0
    have r1 : w1.cell? ⟨w.heap.size + 1 + 1, 1, none⟩ = some (.int .i64 0) := Hr.out.cell 1
    have fr1 : w1.frozen? ⟨w.heap.size + 1 + 1, 1, none⟩ = false := Hr.out.free 1
    have r2 : w1.cell? ⟨w.heap.size + 1 + 1, 2, none⟩ = some (.slice none 0 0) := Hr.out.cell 2
    have fr2 : w1.frozen? ⟨w.heap.size + 1 + 1, 2, none⟩ = false := Hr.out.free 2
    have x0 : w1.cell? ⟨W.heap.size, 0, none⟩ = some (.int .i64 v) := Hx.out.cell 0
    have x1 : w1.cell? ⟨W.heap.size, 1, none⟩ = some (.int .i64 d) := Hx.out.cell 1
    have x2 : w1.cell? ⟨W.heap.size, 2, none⟩ = some (.slice a n cap) := Hx.out.cell 2
    replace Hb := Lib.hid (bnext Hb.out hbn); clear hbn
    go_wp2_with fail
    rw [rounds_succ]
    clear x0 x1 x2
    clear Hx
    have lz_f_W2 : w.heap.size < w1.heap.size := Hf.out.lt
    have lz_g_W2 : w.heap.size + 1 < w1.heap.size := Hg.out.lt
    have lz_r_W2 : w.heap.size + 1 + 1 < w1.heap.size := Hr.out.lt
    obtain ⟨W2, hW_W2⟩ : ∃ W2, (w1.alloc (.cells #[.int .i64 v', .int .i64 d', .slice a' n' cap'] 24)) = W2 := ⟨_, rfl⟩
    have hbn : Below w1.heap.size w1 W2 := by rw [← hW_W2]; exact ((Below.refl _ _).alloc (Nat.le_refl _) _)
    clear f0 f1 f2
    replace Hf := Lib.hid (Hf.out.below hbn)
    clear g0 g1 g2
    replace Hg := Lib.hid (Hg.out.below hbn)
    clear r0 fr0 r1 fr1 r2 fr2
    replace Hr := Lib.hid (Hr.out.below hbn)
    have Hy : Hid (Blk W2 (w1.heap.size) 24 [.int .i64 v', .int .i64 d', .slice a' n' cap']) := by rw [← hW_W2]; exact Blk.newAt _ _ _ (by simp)
    have f0 : W2.cell? ⟨w.heap.size, 0, none⟩ = some (.int .i64 v) := Hf.out.cell 0
    have f1 : W2.cell? ⟨w.heap.size, 1, none⟩ = some (.int .i64 d) := Hf.out.cell 1
    have f2 : W2.cell? ⟨w.heap.size, 2, none⟩ = some (.slice a n cap) := Hf.out.cell 2
    have g0 : W2.cell? ⟨w.heap.size + 1, 0, none⟩ = some (.int .i64 v') := Hg.out.cell 0
    have g1 : W2.cell? ⟨w.heap.size + 1, 1, none⟩ = some (.int .i64 d') := Hg.out.cell 1
    have g2 : W2.cell? ⟨w.heap.size + 1, 2, none⟩ = some (.slice a' n' cap') := Hg.out.cell 2
    have r0 : W2.cell? ⟨w.heap.size + 1 + 1, 0, none⟩ = some (.int .i64 0) := Hr.out.cell 0
    have fr0 : W2.frozen? ⟨w.heap.size + 1 + 1, 0, none⟩ = false := Hr.out.free 0
    have r1 : W2.cell? ⟨w.heap.size + 1 + 1, 1, none⟩ = some (.int .i64 0) := Hr.out.cell 1
    have fr1 : W2.frozen? ⟨w.heap.size + 1 + 1, 1, none⟩ = false := Hr.out.free 1
    have r2 : W2.cell? ⟨w.heap.size + 1 + 1, 2, none⟩ = some (.slice none 0 0) := Hr.out.cell 2
    have fr2 : W2.frozen? ⟨w.heap.size + 1 + 1, 2, none⟩ = false := Hr.out.free 2
    have y0 : W2.cell? ⟨w1.heap.size, 0, none⟩ = some (.int .i64 v') := Hy.out.cell 0
    have y1 : W2.cell? ⟨w1.heap.size, 1, none⟩ = some (.int .i64 d') := Hy.out.cell 1
    have y2 : W2.cell? ⟨w1.heap.size, 2, none⟩ = some (.slice a' n' cap') := Hy.out.cell 2
    replace Hb := Lib.hid (bnext Hb.out hbn); clear hbn
    go_wp2_with fail
    refine (check_any v' d' a' n' cap' 0 Hc'.out _).mono ?_
    rintro e w2 ⟨rfl, hbn⟩
    clear f0 f1 f2
    clear g0 g1 g2
    clear r0 fr0 r1 fr1 r2 fr2
    clear y0 y1 y2
    replace Hf := Lib.hid (Hf.out.below hbn)
    replace Hg := Lib.hid (Hg.out.below hbn)
    replace Hr := Lib.hid (Hr.out.below hbn)
    replace Hy := Lib.hid (Hy.out.below hbn)
    have f0 : w2.cell? ⟨w.heap.size, 0, none⟩ = some (.int .i64 v) := Hf.out.cell 0
    have f1 : w2.cell? ⟨w.heap.size, 1, none⟩ = some (.int .i64 d) := Hf.out.cell 1
    have f2 : w2.cell? ⟨w.heap.size, 2, none⟩ = some (.slice a n cap) := Hf.out.cell 2
    have g0 : w2.cell? ⟨w.heap.size + 1, 0, none⟩ = some (.int .i64 v') := Hg.out.cell 0
    have g1 : w2.cell? ⟨w.heap.size + 1, 1, none⟩ = some (.int .i64 d') := Hg.out.cell 1
    have g2 : w2.cell? ⟨w.heap.size + 1, 2, none⟩ = some (.slice a' n' cap') := Hg.out.cell 2
    have r0 : w2.cell? ⟨w.heap.size + 1 + 1, 0, none⟩ = some (.int .i64 0) := Hr.out.cell 0
    have fr0 : w2.frozen? ⟨w.heap.size + 1 + 1, 0, none⟩ = false := Hr.out.free 0
    have r1 : w2.cell? ⟨w.heap.size + 1 + 1, 1, none⟩ = some (.int .i64 0) := Hr.out.cell 1
    have fr1 : w2.frozen? ⟨w.heap.size + 1 + 1, 1, none⟩ = false := Hr.out.free 1
    have r2 : w2.cell? ⟨w.heap.size + 1 + 1, 2, none⟩ = some (.slice none 0 0) := Hr.out.cell 2
    have fr2 : w2.frozen? ⟨w.heap.size + 1 + 1, 2, none⟩ = false := Hr.out.free 2
    have y0 : w2.cell? ⟨w1.heap.size, 0, none⟩ = some (.int .i64 v') := Hy.out.cell 0
    have y1 : w2.cell? ⟨w1.heap.size, 1, none⟩ = some (.int .i64 d') := Hy.out.cell 1
    have y2 : w2.cell? ⟨w1.heap.size, 2, none⟩ = some (.slice a' n' cap') := Hy.out.cell 2
    replace Hb := Lib.hid (bnext Hb.out hbn); clear hbn
    go_wp2_with fail
    rw [rounds_succ]
    go_wp2
    clear f0 f1 f2
    clear g0 g1 g2
    clear r0 fr0 r1 fr1 r2 fr2
    clear y0 y1 y2
    refine body_world (fun w9 => Blk w9 (w.heap.size) 24 [.int .i64 v, .int .i64 d, .slice a n cap] ∧ Blk w9 (w.heap.size + 1) 24 [.int .i64 v', .int .i64 d', .slice a' n' cap'] ∧ Blk w9 (w.heap.size + 1 + 1) 24 [.int .i64 0, .int .i64 0, .slice none 0 0] ∧ Blk w9 (w1.heap.size) 24 [.int .i64 v', .int .i64 d', .slice a' n' cap'] ∧ Below w.heap.size w w9) ⟨(((Hf.out.set_other ⟨w.heap.size + 1 + 1, 0, none⟩ (by first | (dsimp only; omega) | (show _ ≠ _; omega) | (simp <;> omega)) _).set_other ⟨w.heap.size + 1 + 1, 1, none⟩ (by first | (dsimp only; omega) | (show _ ≠ _; omega) | (simp <;> omega)) _).set_other ⟨w.heap.size + 1 + 1, 2, none⟩ (by first | (dsimp only; omega) | (show _ ≠ _; omega) | (simp <;> omega)) _), (((Hg.out.set_other ⟨w.heap.size + 1 + 1, 0, none⟩ (by first | (dsimp only; omega) | (show _ ≠ _; omega) | (simp <;> omega)) _).set_other ⟨w.heap.size + 1 + 1, 1, none⟩ (by first | (dsimp only; omega) | (show _ ≠ _; omega) | (simp <;> omega)) _).set_other ⟨w.heap.size + 1 + 1, 2, none⟩ (by first | (dsimp only; omega) | (show _ ≠ _; omega) | (simp <;> omega)) _), (((Hr.out.set 0 _).set 1 _).set 2 _), (((Hy.out.set_other ⟨w.heap.size + 1 + 1, 0, none⟩ (by first | (dsimp only; omega) | (show _ ≠ _; omega) | (simp <;> omega)) _).set_other ⟨w.heap.size + 1 + 1, 1, none⟩ (by first | (dsimp only; omega) | (show _ ≠ _; omega) | (simp <;> omega)) _).set_other ⟨w.heap.size + 1 + 1, 2, none⟩ (by first | (dsimp only; omega) | (show _ ≠ _; omega) | (simp <;> omega)) _), (((Hb.out.setCell (p := ⟨w.heap.size + 1 + 1, 0, none⟩) (by have := Hb.out.size; first | (dsimp only; omega) | (show _ ≤ _; omega) | (simp <;> omega)) _).setCell (p := ⟨w.heap.size + 1 + 1, 1, none⟩) (by have := Hb.out.size; first | (dsimp only; omega) | (show _ ≤ _; omega) | (simp <;> omega)) _).setCell (p := ⟨w.heap.size + 1 + 1, 2, none⟩) (by have := Hb.out.size; first | (dsimp only; omega) | (show _ ≤ _; omega) | (simp <;> omega)) _)⟩ ?_
    rintro w9 ⟨qf, qg, qr, qy, hbn⟩
    replace Hf := Lib.hid qf; clear qf
    replace Hg := Lib.hid qg; clear qg
    replace Hr := Lib.hid qr; clear qr
    replace Hy := Lib.hid qy; clear qy
    have f0 : w9.cell? ⟨w.heap.size, 0, none⟩ = some (.int .i64 v) := Hf.out.cell 0
    have f1 : w9.cell? ⟨w.heap.size, 1, none⟩ = some (.int .i64 d) := Hf.out.cell 1
    have f2 : w9.cell? ⟨w.heap.size, 2, none⟩ = some (.slice a n cap) := Hf.out.cell 2
    have g0 : w9.cell? ⟨w.heap.size + 1, 0, none⟩ = some (.int .i64 v') := Hg.out.cell 0
    have g1 : w9.cell? ⟨w.heap.size + 1, 1, none⟩ = some (.int .i64 d') := Hg.out.cell 1
    have g2 : w9.cell? ⟨w.heap.size + 1, 2, none⟩ = some (.slice a' n' cap') := Hg.out.cell 2
    have r0 : w9.cell? ⟨w.heap.size + 1 + 1, 0, none⟩ = some (.int .i64 0) := Hr.out.cell 0
    have fr0 : w9.frozen? ⟨w.heap.size + 1 + 1, 0, none⟩ = false := Hr.out.free 0
    have r1 : w9.cell? ⟨w.heap.size + 1 + 1, 1, none⟩ = some (.int .i64 0) := Hr.out.cell 1
    have fr1 : w9.frozen? ⟨w.heap.size + 1 + 1, 1, none⟩ = false := Hr.out.free 1
    have r2 : w9.cell? ⟨w.heap.size + 1 + 1, 2, none⟩ = some (.slice none 0 0) := Hr.out.cell 2
    have fr2 : w9.frozen? ⟨w.heap.size + 1 + 1, 2, none⟩ = false := Hr.out.free 2
    have y0 : w9.cell? ⟨w1.heap.size, 0, none⟩ = some (.int .i64 v') := Hy.out.cell 0
    have y1 : w9.cell? ⟨w1.heap.size, 1, none⟩ = some (.int .i64 d') := Hy.out.cell 1
    have y2 : w9.cell? ⟨w1.heap.size, 2, none⟩ = some (.slice a' n' cap') := Hy.out.cell 2
    replace Hb := Lib.hid hbn; clear hbn
    refine bodyPost_ret (v := .tuple #[sf0, .int .i64 1]) (by simp [results, Tryz.results11, go_sem, r0, r1, r2]) rfl ⟨rfl, Hb.out⟩

theorem Blk.not_row {W : World} {B : Nat} {t e : TypeId} {cs : List Value} (h : Blk W B t cs) (hte : t ≠ e) {base size k : Nat} {v : Value} {xs : List Value} (hr : W.ownsRow base e size v k xs) : some B ≠ v.ownBlock := by
  rcases hr.2 with ⟨rfl, _⟩ | ⟨g, cap, cur, rfl, _, hgb, _⟩
  · simp [Value.ownBlock]
  · intro e'
    simp only [Value.ownBlock, Option.some.injEq] at e'
    subst e'
    have := h.symm.trans hgb
    simp at this
    exact hte this.2
theorem Blk.row {W W' : World} {B : Nat} {t e : TypeId} {cs : List Value} (h : Blk W B t cs) (hte : t ≠ e) {base size k : Nat} {v : Value} {xs : List Value} (hr : W.ownsRow base e size v k xs) (hg : W.grownBy W' v.ownBlock) : Blk W' B t cs :=
  h.grown hg (h.not_row hte hr)
theorem ownsRow_below {W W' : World} {base : Nat} {e : TypeId} {size : Nat} {v : Value} {n : Nat} {xs : List Value} (h : W.ownsRow base e size v n xs) (hb : Below W.heap.size W W') : W'.ownsRow base e size v n xs := by
  refine ownsRow_chg (Y := fun _ => False) h (Chg.of_below hb) (fun _ _ h => h)
theorem ownsRow_base {W : World} {base : Nat} {e : TypeId} {size : Nat} {v : Value} {n : Nat} {xs : List Value} (h : W.ownsRow base e size v n xs) : ∀ k, v.ownBlock = some k → base ≤ k := fun k hk => (h.lt k hk).1

theorem win3 {w : World} {b o : Nat} {x y z : Value} (h0 : w.cell? ⟨b, o, none⟩ = some x) (h1 : w.cell? ⟨b, o + 1, none⟩ = some y) (h2 : w.cell? ⟨b, o + 2, none⟩ = some z) : Win w b o [x, y, z] := by
  intro j hj
  rcases j with _ | _ | _ | j
  · exact h0
  · exact h1
  · exact h2
  · simp at hj; omega

theorem blk_news {W : World} {b : Nat} {t : TypeId} {cs : List Value} (h : Blk W b t cs) : ∀ j u, cs[j]? = some u → W.cell? ((⟨b, 0, none⟩ : Addr).add j) = some u := by
  intro j u hj
  have e2 : ((⟨b, 0, none⟩ : Addr).add j) = ⟨b, j, none⟩ := by simp [Addr.add]; omega
  rw [e2, h.cell]; exact hj

theorem zip_take (cs ds : List Dyadic) (k : Nat) (h : k < cs.length) (h' : k < ds.length) : (List.zipWith (· + ·) cs ds).take (k + 1) = (List.zipWith (· + ·) cs ds).take k ++ [cs[k] + ds[k]] := by
  rw [List.take_succ_eq_append_getElem (by simp; omega)]
  simp

set_option maxHeartbeats 8000000 in
set_option maxRecDepth 100000 in
theorem add_ok (V D : Nat) (a : Option Addr) (cap : Nat) (raws : List Raw) (a' : Option Addr) (cap' : Nat) (raws' : List Raw) (B : Nat) (w : World) (hc : chk V D raws.length = 0) (hl : raws'.length = raws.length)
    (hfit : ∀ x ∈ raws, Fit B x) (hfit' : ∀ x ∈ raws', Fit B x) (hBB : B ≤ 1000000) (ha : At w a (raws.flatMap numC)) (ha' : At w a' (raws'.flatMap numC)) (hT : Tab w) :
    Calls Tryz.prog 11 #[.agg #[.int .i64 (V : Int), .int .i64 (D : Int), .slice a raws.length cap], .agg #[.int .i64 (V : Int), .int .i64 (D : Int), .slice a' raws.length cap']] w fun e w' => ∃ a2 cap2,
      e = .returned (.tuple #[.agg #[.int .i64 (V : Int), .int .i64 (D : Int), .slice a2 raws.length cap2], .int .i64 0]) ∧ At w' a2 (dC (List.zipWith (· + ·) (raws.map dval) (raws'.map dval))) ∧ Below w.heap.size w w' := by
  obtain ⟨c1, c2, c3, c4, c5, c6⟩ := chk_ok hc
  obtain ⟨N, hN⟩ : ∃ N, raws.length = N := ⟨_, rfl⟩
  rw [hN] at hc c6 hl ⊢
  have Hc := Lib.hid hc; have HT := Lib.hid hT; have HN := Lib.hid hN; have Hl := Lib.hid hl; have Hfit := Lib.hid hfit; have Hfit' := Lib.hid hfit'; have HA := Lib.hid ha; have HA' := Lib.hid ha'
  obtain ⟨i0, hi, hz0, hz1, hz2⟩ := info_parts Tryz.infoN
  obtain ⟨Z, hZ⟩ : ∃ Z, List.zipWith (· + ·) (raws.map dval) (raws'.map dval) = Z := ⟨_, rfl⟩
  have HZ := Lib.hid hZ
  have Hi := Lib.hid hi; have Hz0 := Lib.hid hz0; have Hz1 := Lib.hid hz1; have Hz2 := Lib.hid hz2
  rw [hZ]
  clear c5 hc hN hl hfit hfit' ha ha' hT hZ hi hz0 hz1 hz2
  have ix0 := idx_two0 (.int .i64 (V : Int)) (.int .i64 (D : Int)) (.slice a N cap) (.int .i64 (V : Int)) (.int .i64 (D : Int)) (.slice a' N cap')
  have ix1 := idx_two1 (.int .i64 (V : Int)) (.int .i64 (D : Int)) (.slice a N cap) (.int .i64 (V : Int)) (.int .i64 (D : Int)) (.slice a' N cap')
  obtain ⟨W, hW_W⟩ : ∃ W, (((w.alloc (.cells #[.int .i64 (V : Int), .int .i64 (D : Int), .slice a N cap] 24)).alloc (.cells #[.int .i64 (V : Int), .int .i64 (D : Int), .slice a' N cap'] 24)).alloc (.cells #[.int .i64 0, .int .i64 0, .slice none 0 0] 24)) = W := ⟨_, rfl⟩
  have Hb : Hid (Below w.heap.size w W) := by rw [← hW_W]; exact ((((Below.refl _ _).alloc (Nat.le_refl _) _).alloc (by simp <;> omega) _).alloc (by simp <;> omega) _)
  have Hf : Hid (Blk W (w.heap.size) 24 [.int .i64 (V : Int), .int .i64 (D : Int), .slice a N cap]) := by rw [← hW_W]; exact ((Blk.newAt _ _ _ (by simp)).alloc _).alloc _
  have Hg : Hid (Blk W (w.heap.size + 1) 24 [.int .i64 (V : Int), .int .i64 (D : Int), .slice a' N cap']) := by rw [← hW_W]; exact (Blk.newAt _ _ _ (by simp)).alloc _
  have Hr : Hid (Blk W (w.heap.size + 1 + 1) 24 [.int .i64 0, .int .i64 0, .slice none 0 0]) := by rw [← hW_W]; exact Blk.newAt _ _ _ (by simp)
  have f0 : W.cell? ⟨w.heap.size, 0, none⟩ = some (.int .i64 (V : Int)) := Hf.out.cell 0
  have f1 : W.cell? ⟨w.heap.size, 1, none⟩ = some (.int .i64 (D : Int)) := Hf.out.cell 1
  have f2 : W.cell? ⟨w.heap.size, 2, none⟩ = some (.slice a N cap) := Hf.out.cell 2
  have g0 : W.cell? ⟨w.heap.size + 1, 0, none⟩ = some (.int .i64 (V : Int)) := Hg.out.cell 0
  have g1 : W.cell? ⟨w.heap.size + 1, 1, none⟩ = some (.int .i64 (D : Int)) := Hg.out.cell 1
  have g2 : W.cell? ⟨w.heap.size + 1, 2, none⟩ = some (.slice a' N cap') := Hg.out.cell 2
  have r0 : W.cell? ⟨w.heap.size + 1 + 1, 0, none⟩ = some (.int .i64 0) := Hr.out.cell 0
  have fr0 : W.frozen? ⟨w.heap.size + 1 + 1, 0, none⟩ = false := Hr.out.free 0
  have r1 : W.cell? ⟨w.heap.size + 1 + 1, 1, none⟩ = some (.int .i64 0) := Hr.out.cell 1
  have fr1 : W.frozen? ⟨w.heap.size + 1 + 1, 1, none⟩ = false := Hr.out.free 1
  have r2 : W.cell? ⟨w.heap.size + 1 + 1, 2, none⟩ = some (.slice none 0 0) := Hr.out.cell 2
  have fr2 : W.frozen? ⟨w.heap.size + 1 + 1, 2, none⟩ = false := Hr.out.free 2
  go_enter Tryz.func11, Tryz.ntmps11
  go_wp2_with fail
  refine wp_loop_rounds 3 ?_
  rw [rounds_succ]
  have lz_f_W1 : w.heap.size < W.heap.size := Hf.out.lt
  have lz_g_W1 : w.heap.size + 1 < W.heap.size := Hg.out.lt
  have lz_r_W1 : w.heap.size + 1 + 1 < W.heap.size := Hr.out.lt
  obtain ⟨W1, hW_W1⟩ : ∃ W1, (W.alloc (.cells #[.int .i64 (V : Int), .int .i64 (D : Int), .slice a N cap] 24)) = W1 := ⟨_, rfl⟩
  have hbn : Below W.heap.size W W1 := by rw [← hW_W1]; exact ((Below.refl _ _).alloc (Nat.le_refl _) _)
  clear f0 f1 f2
  replace Hf := Lib.hid (Hf.out.below hbn)
  clear g0 g1 g2
  replace Hg := Lib.hid (Hg.out.below hbn)
  clear r0 fr0 r1 fr1 r2 fr2
  replace Hr := Lib.hid (Hr.out.below hbn)
  have Hx : Hid (Blk W1 (W.heap.size) 24 [.int .i64 (V : Int), .int .i64 (D : Int), .slice a N cap]) := by rw [← hW_W1]; exact Blk.newAt _ _ _ (by simp)
  have f0 : W1.cell? ⟨w.heap.size, 0, none⟩ = some (.int .i64 (V : Int)) := Hf.out.cell 0
  have f1 : W1.cell? ⟨w.heap.size, 1, none⟩ = some (.int .i64 (D : Int)) := Hf.out.cell 1
  have f2 : W1.cell? ⟨w.heap.size, 2, none⟩ = some (.slice a N cap) := Hf.out.cell 2
  have g0 : W1.cell? ⟨w.heap.size + 1, 0, none⟩ = some (.int .i64 (V : Int)) := Hg.out.cell 0
  have g1 : W1.cell? ⟨w.heap.size + 1, 1, none⟩ = some (.int .i64 (D : Int)) := Hg.out.cell 1
  have g2 : W1.cell? ⟨w.heap.size + 1, 2, none⟩ = some (.slice a' N cap') := Hg.out.cell 2
  have r0 : W1.cell? ⟨w.heap.size + 1 + 1, 0, none⟩ = some (.int .i64 0) := Hr.out.cell 0
  have fr0 : W1.frozen? ⟨w.heap.size + 1 + 1, 0, none⟩ = false := Hr.out.free 0
  have r1 : W1.cell? ⟨w.heap.size + 1 + 1, 1, none⟩ = some (.int .i64 0) := Hr.out.cell 1
  have fr1 : W1.frozen? ⟨w.heap.size + 1 + 1, 1, none⟩ = false := Hr.out.free 1
  have r2 : W1.cell? ⟨w.heap.size + 1 + 1, 2, none⟩ = some (.slice none 0 0) := Hr.out.cell 2
  have fr2 : W1.frozen? ⟨w.heap.size + 1 + 1, 2, none⟩ = false := Hr.out.free 2
  have x0 : W1.cell? ⟨W.heap.size, 0, none⟩ = some (.int .i64 (V : Int)) := Hx.out.cell 0
  have x1 : W1.cell? ⟨W.heap.size, 1, none⟩ = some (.int .i64 (D : Int)) := Hx.out.cell 1
  have x2 : W1.cell? ⟨W.heap.size, 2, none⟩ = some (.slice a N cap) := Hx.out.cell 2
  replace Hb := Lib.hid (bnext Hb.out hbn); clear hbn
  go_wp2_with fail
  refine (check_any V D a N cap 0 Hc.out _).mono ?_
  rintro e w1 ⟨rfl, hbn⟩
  clear f0 f1 f2
  clear g0 g1 g2
  clear r0 fr0 r1 fr1 r2 fr2
  clear x0 x1 x2
  replace Hf := Lib.hid (Hf.out.below hbn)
  replace Hg := Lib.hid (Hg.out.below hbn)
  replace Hr := Lib.hid (Hr.out.below hbn)
  replace Hx := Lib.hid (Hx.out.below hbn)
  have f0 : w1.cell? ⟨w.heap.size, 0, none⟩ = some (.int .i64 (V : Int)) := Hf.out.cell 0
  have f1 : w1.cell? ⟨w.heap.size, 1, none⟩ = some (.int .i64 (D : Int)) := Hf.out.cell 1
  have f2 : w1.cell? ⟨w.heap.size, 2, none⟩ = some (.slice a N cap) := Hf.out.cell 2
  have g0 : w1.cell? ⟨w.heap.size + 1, 0, none⟩ = some (.int .i64 (V : Int)) := Hg.out.cell 0
  have g1 : w1.cell? ⟨w.heap.size + 1, 1, none⟩ = some (.int .i64 (D : Int)) := Hg.out.cell 1
  have g2 : w1.cell? ⟨w.heap.size + 1, 2, none⟩ = some (.slice a' N cap') := Hg.out.cell 2
  have r0 : w1.cell? ⟨w.heap.size + 1 + 1, 0, none⟩ = some (.int .i64 0) := Hr.out.cell 0
  have fr0 : w1.frozen? ⟨w.heap.size + 1 + 1, 0, none⟩ = false := Hr.out.free 0
  have r1 : w1.cell? ⟨w.heap.size + 1 + 1, 1, none⟩ = some (.int .i64 0) := Hr.out.cell 1
  have fr1 : w1.frozen? ⟨w.heap.size + 1 + 1, 1, none⟩ = false := Hr.out.free 1
  have r2 : w1.cell? ⟨w.heap.size + 1 + 1, 2, none⟩ = some (.slice none 0 0) := Hr.out.cell 2
  have fr2 : w1.frozen? ⟨w.heap.size + 1 + 1, 2, none⟩ = false := Hr.out.free 2
  have x0 : w1.cell? ⟨W.heap.size, 0, none⟩ = some (.int .i64 (V : Int)) := Hx.out.cell 0
  have x1 : w1.cell? ⟨W.heap.size, 1, none⟩ = some (.int .i64 (D : Int)) := Hx.out.cell 1
  have x2 : w1.cell? ⟨W.heap.size, 2, none⟩ = some (.slice a N cap) := Hx.out.cell 2
  replace Hb := Lib.hid (bnext Hb.out hbn); clear hbn
  go_wp2_with fail
  rw [rounds_succ]
  clear x0 x1 x2
  clear Hx
  have lz_f_W2 : w.heap.size < w1.heap.size := Hf.out.lt
  have lz_g_W2 : w.heap.size + 1 < w1.heap.size := Hg.out.lt
  have lz_r_W2 : w.heap.size + 1 + 1 < w1.heap.size := Hr.out.lt
  obtain ⟨W2, hW_W2⟩ : ∃ W2, (w1.alloc (.cells #[.int .i64 (V : Int), .int .i64 (D : Int), .slice a' N cap'] 24)) = W2 := ⟨_, rfl⟩
  have hbn : Below w1.heap.size w1 W2 := by rw [← hW_W2]; exact ((Below.refl _ _).alloc (Nat.le_refl _) _)
  clear f0 f1 f2
  replace Hf := Lib.hid (Hf.out.below hbn)
  clear g0 g1 g2
  replace Hg := Lib.hid (Hg.out.below hbn)
  clear r0 fr0 r1 fr1 r2 fr2
  replace Hr := Lib.hid (Hr.out.below hbn)
  have Hy : Hid (Blk W2 (w1.heap.size) 24 [.int .i64 (V : Int), .int .i64 (D : Int), .slice a' N cap']) := by rw [← hW_W2]; exact Blk.newAt _ _ _ (by simp)
  have f0 : W2.cell? ⟨w.heap.size, 0, none⟩ = some (.int .i64 (V : Int)) := Hf.out.cell 0
  have f1 : W2.cell? ⟨w.heap.size, 1, none⟩ = some (.int .i64 (D : Int)) := Hf.out.cell 1
  have f2 : W2.cell? ⟨w.heap.size, 2, none⟩ = some (.slice a N cap) := Hf.out.cell 2
  have g0 : W2.cell? ⟨w.heap.size + 1, 0, none⟩ = some (.int .i64 (V : Int)) := Hg.out.cell 0
  have g1 : W2.cell? ⟨w.heap.size + 1, 1, none⟩ = some (.int .i64 (D : Int)) := Hg.out.cell 1
  have g2 : W2.cell? ⟨w.heap.size + 1, 2, none⟩ = some (.slice a' N cap') := Hg.out.cell 2
  have r0 : W2.cell? ⟨w.heap.size + 1 + 1, 0, none⟩ = some (.int .i64 0) := Hr.out.cell 0
  have fr0 : W2.frozen? ⟨w.heap.size + 1 + 1, 0, none⟩ = false := Hr.out.free 0
  have r1 : W2.cell? ⟨w.heap.size + 1 + 1, 1, none⟩ = some (.int .i64 0) := Hr.out.cell 1
  have fr1 : W2.frozen? ⟨w.heap.size + 1 + 1, 1, none⟩ = false := Hr.out.free 1
  have r2 : W2.cell? ⟨w.heap.size + 1 + 1, 2, none⟩ = some (.slice none 0 0) := Hr.out.cell 2
  have fr2 : W2.frozen? ⟨w.heap.size + 1 + 1, 2, none⟩ = false := Hr.out.free 2
  have y0 : W2.cell? ⟨w1.heap.size, 0, none⟩ = some (.int .i64 (V : Int)) := Hy.out.cell 0
  have y1 : W2.cell? ⟨w1.heap.size, 1, none⟩ = some (.int .i64 (D : Int)) := Hy.out.cell 1
  have y2 : W2.cell? ⟨w1.heap.size, 2, none⟩ = some (.slice a' N cap') := Hy.out.cell 2
  replace Hb := Lib.hid (bnext Hb.out hbn); clear hbn
  go_wp2_with fail
  refine (check_any V D a' N cap' 0 Hc.out _).mono ?_
  rintro e w2 ⟨rfl, hbn⟩
  clear f0 f1 f2
  clear g0 g1 g2
  clear r0 fr0 r1 fr1 r2 fr2
  clear y0 y1 y2
  replace Hf := Lib.hid (Hf.out.below hbn)
  replace Hg := Lib.hid (Hg.out.below hbn)
  replace Hr := Lib.hid (Hr.out.below hbn)
  replace Hy := Lib.hid (Hy.out.below hbn)
  have f0 : w2.cell? ⟨w.heap.size, 0, none⟩ = some (.int .i64 (V : Int)) := Hf.out.cell 0
  have f1 : w2.cell? ⟨w.heap.size, 1, none⟩ = some (.int .i64 (D : Int)) := Hf.out.cell 1
  have f2 : w2.cell? ⟨w.heap.size, 2, none⟩ = some (.slice a N cap) := Hf.out.cell 2
  have g0 : w2.cell? ⟨w.heap.size + 1, 0, none⟩ = some (.int .i64 (V : Int)) := Hg.out.cell 0
  have g1 : w2.cell? ⟨w.heap.size + 1, 1, none⟩ = some (.int .i64 (D : Int)) := Hg.out.cell 1
  have g2 : w2.cell? ⟨w.heap.size + 1, 2, none⟩ = some (.slice a' N cap') := Hg.out.cell 2
  have r0 : w2.cell? ⟨w.heap.size + 1 + 1, 0, none⟩ = some (.int .i64 0) := Hr.out.cell 0
  have fr0 : w2.frozen? ⟨w.heap.size + 1 + 1, 0, none⟩ = false := Hr.out.free 0
  have r1 : w2.cell? ⟨w.heap.size + 1 + 1, 1, none⟩ = some (.int .i64 0) := Hr.out.cell 1
  have fr1 : w2.frozen? ⟨w.heap.size + 1 + 1, 1, none⟩ = false := Hr.out.free 1
  have r2 : w2.cell? ⟨w.heap.size + 1 + 1, 2, none⟩ = some (.slice none 0 0) := Hr.out.cell 2
  have fr2 : w2.frozen? ⟨w.heap.size + 1 + 1, 2, none⟩ = false := Hr.out.free 2
  have y0 : w2.cell? ⟨w1.heap.size, 0, none⟩ = some (.int .i64 (V : Int)) := Hy.out.cell 0
  have y1 : w2.cell? ⟨w1.heap.size, 1, none⟩ = some (.int .i64 (D : Int)) := Hy.out.cell 1
  have y2 : w2.cell? ⟨w1.heap.size, 2, none⟩ = some (.slice a' N cap') := Hy.out.cell 2
  replace Hb := Lib.hid (bnext Hb.out hbn); clear hbn
  go_wp2_with fail
  rw [rounds_succ]
  clear y0 y1 y2
  clear Hy
  clear ix0 ix1
  have lz_f_w3 : w.heap.size < w2.heap.size := Hf.out.lt
  have lz_g_w3 : w.heap.size + 1 < w2.heap.size := Hg.out.lt
  have lz_r_w3 : w.heap.size + 1 + 1 < w2.heap.size := Hr.out.lt
  go_wp2_with fail
  first | refine wp_world (fun w3 => Blk w3 (w2.heap.size) 24 [.int .i64 (V : Int), .int .i64 (D : Int), .slice none 0 0] ∧ Below w2.heap.size w2 w3) ?hR ?_ | refine calls_world (fun w3 => Blk w3 (w2.heap.size) 24 [.int .i64 (V : Int), .int .i64 (D : Int), .slice none 0 0] ∧ Below w2.heap.size w2 w3) ?hR ?_
  case hR => exact ⟨(Blk.newAt w2 _ _ (b := w2.heap.size) rfl), ((Below.refl _ _).alloc (Nat.le_refl _) _)⟩
  rintro w3 ⟨qo, hbn⟩
  have Ho := Lib.hid qo; clear qo
  clear f0 f1 f2
  replace Hf := Lib.hid (Hf.out.below hbn)
  have f0 : w3.cell? ⟨w.heap.size, 0, none⟩ = some (.int .i64 (V : Int)) := Hf.out.cell 0
  have f1 : w3.cell? ⟨w.heap.size, 1, none⟩ = some (.int .i64 (D : Int)) := Hf.out.cell 1
  have f2 : w3.cell? ⟨w.heap.size, 2, none⟩ = some (.slice a N cap) := Hf.out.cell 2
  clear g0 g1 g2
  replace Hg := Lib.hid (Hg.out.below hbn)
  have g0 : w3.cell? ⟨w.heap.size + 1, 0, none⟩ = some (.int .i64 (V : Int)) := Hg.out.cell 0
  have g1 : w3.cell? ⟨w.heap.size + 1, 1, none⟩ = some (.int .i64 (D : Int)) := Hg.out.cell 1
  have g2 : w3.cell? ⟨w.heap.size + 1, 2, none⟩ = some (.slice a' N cap') := Hg.out.cell 2
  clear r0 fr0 r1 fr1 r2 fr2
  replace Hr := Lib.hid (Hr.out.below hbn)
  have r0 : w3.cell? ⟨w.heap.size + 1 + 1, 0, none⟩ = some (.int .i64 0) := Hr.out.cell 0
  have fr0 : w3.frozen? ⟨w.heap.size + 1 + 1, 0, none⟩ = false := Hr.out.free 0
  have r1 : w3.cell? ⟨w.heap.size + 1 + 1, 1, none⟩ = some (.int .i64 0) := Hr.out.cell 1
  have fr1 : w3.frozen? ⟨w.heap.size + 1 + 1, 1, none⟩ = false := Hr.out.free 1
  have r2 : w3.cell? ⟨w.heap.size + 1 + 1, 2, none⟩ = some (.slice none 0 0) := Hr.out.cell 2
  have fr2 : w3.frozen? ⟨w.heap.size + 1 + 1, 2, none⟩ = false := Hr.out.free 2
  have o0 : w3.cell? ⟨w2.heap.size, 0, none⟩ = some (.int .i64 (V : Int)) := Ho.out.cell 0
  have fo0 : w3.frozen? ⟨w2.heap.size, 0, none⟩ = false := Ho.out.free 0
  have o1 : w3.cell? ⟨w2.heap.size, 1, none⟩ = some (.int .i64 (D : Int)) := Ho.out.cell 1
  have fo1 : w3.frozen? ⟨w2.heap.size, 1, none⟩ = false := Ho.out.free 1
  have o2 : w3.cell? ⟨w2.heap.size, 2, none⟩ = some (.slice none 0 0) := Ho.out.cell 2
  have fo2 : w3.frozen? ⟨w2.heap.size, 2, none⟩ = false := Ho.out.free 2
  replace Hb := Lib.hid (bnext Hb.out hbn); clear hbn
  have lf := Hf.out.lt; have lg := Hg.out.lt; have lr := Hr.out.lt; have lo := Ho.out.lt
  go_loopw [10, 45] (fun _ i wr => ∃ k : Nat, k ≤ N ∧ i = .int .i64 (k : Int) ∧ ∃ v, wr.ownsRow w.heap.size 36 3 v k (dC (Z.take k)) ∧ Blk wr w.heap.size 24 [.int .i64 (V : Int), .int .i64 (D : Int), .slice a N cap] ∧ Blk wr (w.heap.size + 1) 24 [.int .i64 (V : Int), .int .i64 (D : Int), .slice a' N cap'] ∧ Blk wr (w.heap.size + 1 + 1) 24 [.int .i64 0, .int .i64 0, .slice none 0 0] ∧ Blk wr w2.heap.size 24 [.int .i64 (V : Int), .int .i64 (D : Int), v] ∧ Below w.heap.size w wr) (fun _ i _ => N - (intOf i).toNat)
  case atStart => exact ⟨0, Nat.zero_le _, rfl, _, World.ownsRow_nil _ _ _ _, Hf.out, Hg.out, Hr.out, Ho.out, Hb.out⟩
  case round =>
    clear f0 f1 f2 g0 g1 g2 r0 r1 r2 fr0 fr1 fr2 o0 o1 o2 fo0 fo1 fo2
    obtain ⟨k, hk, rfl, v, pv, pF, pG, pR, pO, pb⟩ := hrel
    by_cases hlt : k < N
    · have h1 : k < raws.length := by rw [HN.out]; exact hlt
      have h2 : k < raws'.length := by rw [Hl.out]; exact hlt
      obtain ⟨s, m, e, hx⟩ : ∃ s m e, raws[k] = (s, m, e) := ⟨_, _, _, rfl⟩
      obtain ⟨s', m', e', hx'⟩ : ∃ s m e, raws'[k] = (s, m, e) := ⟨_, _, _, rfl⟩
      have HF1 : Hid (Fit B (s, m, e)) := by show Fit _ _; rw [← hx]; exact Hfit.out _ (List.getElem_mem h1)
      have HF2 : Hid (Fit B (s', m', e')) := by show Fit _ _; rw [← hx']; exact Hfit'.out _ (List.getElem_mem h2)
      obtain ⟨X, hX⟩ : ∃ X, dval (s, m, e) + dval (s', m', e') = X := ⟨_, rfl⟩
      have HX := Lib.hid hX
      have Hst : Hid (dC (Z.take (k + 1)) = dC (Z.take k) ++ [.bool (sgnB (dN X)), .string (bs (nt (dN X).natAbs)), .int .i64 (dE X)]) := by
        show _ = _
        rw [← HZ.out, zip_take _ _ k (by simpa using h1) (by simpa using h2), dC_append]
        congr 1
        simp only [List.getElem_map, hx, hx', hX]
        rfl
      obtain ⟨b1, oa, hab1, p0, p1, p2⟩ := HA.out.num k h1 hx
      obtain ⟨b2, ob, hab2, q0, q1, q2⟩ := HA'.out.num k h2 hx'
      have lb1 : b1 < w.heap.size := World.block_lt_of_cell? w _ p0
      have lb2 : b2 < w.heap.size := World.block_lt_of_cell? w _ q0
      replace p0 := cell_later pb p0; replace p1 := cell_later pb p1; replace p2 := cell_later pb p2
      replace q0 := cell_later pb q0; replace q1 := cell_later pb q1; replace q2 := cell_later pb q2
      have hix1 := ixs (t := 22) (e := 36) (sz := 3) Tryz.underlying22 (by kernel_rfl) N cap k (k : Int) hab1 hlt rfl
      have hix2 := ixs (t := 22) (e := 36) (sz := 3) Tryz.underlying22 (by kernel_rfl) N cap' k (k : Int) hab2 hlt rfl
      have Hp : Hid (Win wr b1 (oa + k * 3) [.bool s, .string (bs m), .int .i64 e]) := win3 p0 p1 p2
      have Hq : Hid (Win wr b2 (ob + k * 3) [.bool s', .string (bs m'), .int .i64 e']) := win3 q0 q1 q2
      replace Hf := Lib.hid pF; replace Hg := Lib.hid pG; replace Hr := Lib.hid pR; replace Ho := Lib.hid pO; have Hv := Lib.hid pv; have Hbr := Lib.hid pb
      have hszr : w.heap.size ≤ wr.heap.size := pb.size
      clear pF pG pR pO pv hx hx' hX hab1 hab2 p0 p1 p2 q0 q1 q2 Hb pb
      have Hb : Hid (Below wr.heap.size wr wr) := Below.refl _ _
      go_wp2_with fail
      have o0 : wr.cell? ⟨w2.heap.size, 0, none⟩ = some (.int .i64 (V : Int)) := Ho.out.cell 0
      have fo0 : wr.frozen? ⟨w2.heap.size, 0, none⟩ = false := Ho.out.free 0
      have o1 : wr.cell? ⟨w2.heap.size, 1, none⟩ = some (.int .i64 (D : Int)) := Ho.out.cell 1
      have fo1 : wr.frozen? ⟨w2.heap.size, 1, none⟩ = false := Ho.out.free 1
      have o2 : wr.cell? ⟨w2.heap.size, 2, none⟩ = some (v) := Ho.out.cell 2
      have fo2 : wr.frozen? ⟨w2.heap.size, 2, none⟩ = false := Ho.out.free 2
      have f0 : wr.cell? ⟨w.heap.size, 0, none⟩ = some (.int .i64 (V : Int)) := Hf.out.cell 0
      have f1 : wr.cell? ⟨w.heap.size, 1, none⟩ = some (.int .i64 (D : Int)) := Hf.out.cell 1
      have f2 : wr.cell? ⟨w.heap.size, 2, none⟩ = some (.slice a N cap) := Hf.out.cell 2
      have g0 : wr.cell? ⟨w.heap.size + 1, 0, none⟩ = some (.int .i64 (V : Int)) := Hg.out.cell 0
      have g1 : wr.cell? ⟨w.heap.size + 1, 1, none⟩ = some (.int .i64 (D : Int)) := Hg.out.cell 1
      have g2 : wr.cell? ⟨w.heap.size + 1, 2, none⟩ = some (.slice a' N cap') := Hg.out.cell 2
      have p0 : wr.cell? ⟨b1, oa + k * 3, none⟩ = some (.bool s) := Hp.out.cell 0 (by simp)
      have p1 : wr.cell? ⟨b1, oa + k * 3 + 1, none⟩ = some (.string (bs m)) := Hp.out.cell 1 (by simp)
      have p2 : wr.cell? ⟨b1, oa + k * 3 + 2, none⟩ = some (.int .i64 e) := Hp.out.cell 2 (by simp)
      have q0 : wr.cell? ⟨b2, ob + k * 3, none⟩ = some (.bool s') := Hq.out.cell 0 (by simp)
      have q1 : wr.cell? ⟨b2, ob + k * 3 + 1, none⟩ = some (.string (bs m')) := Hq.out.cell 1 (by simp)
      have q2 : wr.cell? ⟨b2, ob + k * 3 + 2, none⟩ = some (.int .i64 e') := Hq.out.cell 2 (by simp)
      refine wp_region_plan (fun w' => w'.cell? ⟨w2.heap.size, 2, none⟩ = some (v) ∧ w'.cell? ⟨w.heap.size, 2, none⟩ = some (.slice a N cap) ∧ w'.cell? ⟨w.heap.size + 1, 2, none⟩ = some (.slice a' N cap') ∧ w'.cell? ⟨b1, oa + k * 3, none⟩ = some (.bool s) ∧ w'.cell? ⟨b1, oa + k * 3 + 1, none⟩ = some (.string (bs m)) ∧ w'.cell? ⟨b1, oa + k * 3 + 2, none⟩ = some (.int .i64 e) ∧ w'.cell? ⟨b2, ob + k * 3, none⟩ = some (.bool s') ∧ w'.cell? ⟨b2, ob + k * 3 + 1, none⟩ = some (.string (bs m')) ∧ w'.cell? ⟨b2, ob + k * 3 + 2, none⟩ = some (.int .i64 e')) (fun i => Nat.blt i 17) [(0, true), (1, true), (2, true), (3, true), (4, true), (5, true), (6, true), (7, true), (8, true), (9, true), (10, true), (11, true), (12, false), (13, false), (14, false), (15, false), (16, true), (17, false)] (by kernel_rfl) (by kernel_rfl) rfl (by kernel_rfl) (fun o c a v w => by cases o.dst <;> exact id) ⟨o2, f2, g2, p0, p1, p2, q0, q1, q2⟩ ?_
      refine planT rfl rfl (v := ?_) (fun w' hw' => ?_) ?_; rotate_left; focus (go_simp; try with_reducible rfl)
      try simp only [Act.put, List.setIfInBounds_toArray, List.set_cons_zero, List.set_cons_succ]
      refine planT rfl rfl (v := ?_) (fun w' hw' => ?_) ?_; rotate_left; focus (obtain ⟨q0, q1, q2, q3, q4, q5, q6, q7, q8⟩ := hw'; go_simp; try with_reducible rfl)
      try simp only [Act.put, List.setIfInBounds_toArray, List.set_cons_zero, List.set_cons_succ]
      refine planT rfl rfl (v := ?_) (fun w' hw' => ?_) ?_; rotate_left; focus (go_simp; try with_reducible rfl)
      try simp only [Act.put, List.setIfInBounds_toArray, List.set_cons_zero, List.set_cons_succ]
      refine planT rfl rfl (v := ?_) (fun w' hw' => ?_) ?_; rotate_left; focus (obtain ⟨q0, q1, q2, q3, q4, q5, q6, q7, q8⟩ := hw'; go_simp; try with_reducible rfl)
      try simp only [Act.put, List.setIfInBounds_toArray, List.set_cons_zero, List.set_cons_succ]
      refine planT rfl rfl (v := ?_) (fun w' hw' => ?_) ?_; rotate_left; focus (go_simp; try with_reducible rfl)
      try simp only [Act.put, List.setIfInBounds_toArray, List.set_cons_zero, List.set_cons_succ]
      refine planT rfl rfl (v := ?_) (fun w' hw' => ?_) ?_; rotate_left; focus (go_simp; try with_reducible rfl)
      try simp only [Act.put, List.setIfInBounds_toArray, List.set_cons_zero, List.set_cons_succ]
      refine planT rfl rfl (v := ?_) (fun w' hw' => ?_) ?_; rotate_left; focus (obtain ⟨q0, q1, q2, q3, q4, q5, q6, q7, q8⟩ := hw'; go_simp; try with_reducible rfl)
      try simp only [Act.put, List.setIfInBounds_toArray, List.set_cons_zero, List.set_cons_succ]
      refine planT rfl rfl (v := ?_) (fun w' hw' => ?_) ?_; rotate_left; focus (go_simp; try with_reducible rfl)
      try simp only [Act.put, List.setIfInBounds_toArray, List.set_cons_zero, List.set_cons_succ]
      refine planT rfl rfl (v := ?_) (fun w' hw' => ?_) ?_; rotate_left; focus (obtain ⟨q0, q1, q2, q3, q4, q5, q6, q7, q8⟩ := hw'; go_simp; try with_reducible rfl)
      try simp only [Act.put, List.setIfInBounds_toArray, List.set_cons_zero, List.set_cons_succ]
      refine planT rfl rfl (v := ?_) (fun w' hw' => ?_) ?_; rotate_left; focus (go_simp; try with_reducible rfl)
      try simp only [Act.put, List.setIfInBounds_toArray, List.set_cons_zero, List.set_cons_succ]
      refine planT rfl rfl (v := ?_) (fun w' hw' => ?_) ?_; rotate_left; focus (go_simp; try with_reducible rfl)
      try simp only [Act.put, List.setIfInBounds_toArray, List.set_cons_zero, List.set_cons_succ]
      refine planT rfl rfl (v := ?_) (fun w' hw' => ?_) ?_; rotate_left; focus (obtain ⟨q0, q1, q2, q3, q4, q5, q6, q7, q8⟩ := hw'; go_simp; try with_reducible rfl)
      try simp only [Act.put, List.setIfInBounds_toArray, List.set_cons_zero, List.set_cons_succ]
      refine planF rfl rfl (fun K hK => ?_)
      go_simp
      refine hK _ _ (fun _ => ⟨cell_new o2, cell_new f2, cell_new g2, cell_new p0, cell_new p1, cell_new p2, cell_new q0, cell_new q1, cell_new q2⟩) ?_; clear hK K
      try simp only [Act.put, List.setIfInBounds_toArray, List.set_cons_zero, List.set_cons_succ]
      refine plan_world (fun w4 => Blk w4 (wr.heap.size) 36 [.bool s, .string (bs m), .int .i64 e, .bool s', .string (bs m'), .int .i64 e'] ∧ Below wr.heap.size wr w4) (by first | exact ⟨Blk.new _ _ _, (Below.refl _ _).alloc (Nat.le_refl _) _⟩ | exact ⟨Blk.drew (Blk.new _ _ _), ((Below.refl _ _).alloc (Nat.le_refl _) _).drew⟩) ?_
      rintro w4 ⟨qa, hbn⟩
      clear o0 fo0 o1 fo1 o2 fo2
      clear f0 f1 f2
      clear g0 g1 g2
      clear p0 p1 p2
      clear q0 q1 q2
      have lz_o_w4 : w2.heap.size < wr.heap.size := Ho.out.lt
      have lz_f_w4 : w.heap.size < wr.heap.size := Hf.out.lt
      have lz_g_w4 : w.heap.size + 1 < wr.heap.size := Hg.out.lt
      replace Ho := Lib.hid (Ho.out.below hbn)
      replace Hf := Lib.hid (Hf.out.below hbn)
      replace Hg := Lib.hid (Hg.out.below hbn)
      replace Hp := Lib.hid (Hp.out.below hbn)
      replace Hq := Lib.hid (Hq.out.below hbn)
      have Ha := Lib.hid qa; clear qa
      have o0 : w4.cell? ⟨w2.heap.size, 0, none⟩ = some (.int .i64 (V : Int)) := Ho.out.cell 0
      have fo0 : w4.frozen? ⟨w2.heap.size, 0, none⟩ = false := Ho.out.free 0
      have o1 : w4.cell? ⟨w2.heap.size, 1, none⟩ = some (.int .i64 (D : Int)) := Ho.out.cell 1
      have fo1 : w4.frozen? ⟨w2.heap.size, 1, none⟩ = false := Ho.out.free 1
      have o2 : w4.cell? ⟨w2.heap.size, 2, none⟩ = some (v) := Ho.out.cell 2
      have fo2 : w4.frozen? ⟨w2.heap.size, 2, none⟩ = false := Ho.out.free 2
      have f0 : w4.cell? ⟨w.heap.size, 0, none⟩ = some (.int .i64 (V : Int)) := Hf.out.cell 0
      have f1 : w4.cell? ⟨w.heap.size, 1, none⟩ = some (.int .i64 (D : Int)) := Hf.out.cell 1
      have f2 : w4.cell? ⟨w.heap.size, 2, none⟩ = some (.slice a N cap) := Hf.out.cell 2
      have g0 : w4.cell? ⟨w.heap.size + 1, 0, none⟩ = some (.int .i64 (V : Int)) := Hg.out.cell 0
      have g1 : w4.cell? ⟨w.heap.size + 1, 1, none⟩ = some (.int .i64 (D : Int)) := Hg.out.cell 1
      have g2 : w4.cell? ⟨w.heap.size + 1, 2, none⟩ = some (.slice a' N cap') := Hg.out.cell 2
      have p0 : w4.cell? ⟨b1, oa + k * 3, none⟩ = some (.bool s) := Hp.out.cell 0 (by simp)
      have p1 : w4.cell? ⟨b1, oa + k * 3 + 1, none⟩ = some (.string (bs m)) := Hp.out.cell 1 (by simp)
      have p2 : w4.cell? ⟨b1, oa + k * 3 + 2, none⟩ = some (.int .i64 e) := Hp.out.cell 2 (by simp)
      have q0 : w4.cell? ⟨b2, ob + k * 3, none⟩ = some (.bool s') := Hq.out.cell 0 (by simp)
      have q1 : w4.cell? ⟨b2, ob + k * 3 + 1, none⟩ = some (.string (bs m')) := Hq.out.cell 1 (by simp)
      have q2 : w4.cell? ⟨b2, ob + k * 3 + 2, none⟩ = some (.int .i64 e') := Hq.out.cell 2 (by simp)
      have a0 : w4.cell? ⟨wr.heap.size, 0, none⟩ = some (.bool s) := Ha.out.cell 0
      have a1 : w4.cell? ⟨wr.heap.size, 1, none⟩ = some (.string (bs m)) := Ha.out.cell 1
      have a2 : w4.cell? ⟨wr.heap.size, 2, none⟩ = some (.int .i64 e) := Ha.out.cell 2
      have a3 : w4.cell? ⟨wr.heap.size, 3, none⟩ = some (.bool s') := Ha.out.cell 3
      have a4 : w4.cell? ⟨wr.heap.size, 4, none⟩ = some (.string (bs m')) := Ha.out.cell 4
      have a5 : w4.cell? ⟨wr.heap.size, 5, none⟩ = some (.int .i64 e') := Ha.out.cell 5
      replace Hb := Lib.hid (bnext Hb.out hbn); clear hbn
      refine planF rfl rfl (fun K hK => ?_)
      go_simp
      with_reducible refine (dAdd_two s m e s' m' e' X B HX.out wr.heap.size 2 36 _ HF1.out HF2.out (by omega) Ha.out (by first | exact ((HT.out.below Hbr.out).below Hb.out) | exact Tab.drew ((HT.out.below Hbr.out).below Hb.out) | exact Tab.alloc ((HT.out.below Hbr.out).below Hb.out) _ | exact Tab.drew (Tab.alloc ((HT.out.below Hbr.out).below Hb.out) _) | exact Tab.alloc (Tab.drew ((HT.out.below Hbr.out).below Hb.out)) _)).mono ?_
      rintro e w5 ⟨rfl, hq⟩
      have hbn : Below w4.heap.size w4 w5 := (by first | exact hq | exact bundrew hq); clear hq
      clear o0 fo0 o1 fo1 o2 fo2
      clear f0 f1 f2
      clear g0 g1 g2
      clear p0 p1 p2
      clear q0 q1 q2
      clear a0 a1 a2 a3 a4 a5
      replace Ho := Lib.hid (Ho.out.below hbn)
      replace Hf := Lib.hid (Hf.out.below hbn)
      replace Hg := Lib.hid (Hg.out.below hbn)
      replace Hp := Lib.hid (Hp.out.below hbn)
      replace Hq := Lib.hid (Hq.out.below hbn)
      replace Ha := Lib.hid (Ha.out.below hbn)
      have o0 : w5.cell? ⟨w2.heap.size, 0, none⟩ = some (.int .i64 (V : Int)) := Ho.out.cell 0
      have fo0 : w5.frozen? ⟨w2.heap.size, 0, none⟩ = false := Ho.out.free 0
      have o1 : w5.cell? ⟨w2.heap.size, 1, none⟩ = some (.int .i64 (D : Int)) := Ho.out.cell 1
      have fo1 : w5.frozen? ⟨w2.heap.size, 1, none⟩ = false := Ho.out.free 1
      have o2 : w5.cell? ⟨w2.heap.size, 2, none⟩ = some (v) := Ho.out.cell 2
      have fo2 : w5.frozen? ⟨w2.heap.size, 2, none⟩ = false := Ho.out.free 2
      have f0 : w5.cell? ⟨w.heap.size, 0, none⟩ = some (.int .i64 (V : Int)) := Hf.out.cell 0
      have f1 : w5.cell? ⟨w.heap.size, 1, none⟩ = some (.int .i64 (D : Int)) := Hf.out.cell 1
      have f2 : w5.cell? ⟨w.heap.size, 2, none⟩ = some (.slice a N cap) := Hf.out.cell 2
      have g0 : w5.cell? ⟨w.heap.size + 1, 0, none⟩ = some (.int .i64 (V : Int)) := Hg.out.cell 0
      have g1 : w5.cell? ⟨w.heap.size + 1, 1, none⟩ = some (.int .i64 (D : Int)) := Hg.out.cell 1
      have g2 : w5.cell? ⟨w.heap.size + 1, 2, none⟩ = some (.slice a' N cap') := Hg.out.cell 2
      have p0 : w5.cell? ⟨b1, oa + k * 3, none⟩ = some (.bool s) := Hp.out.cell 0 (by simp)
      have p1 : w5.cell? ⟨b1, oa + k * 3 + 1, none⟩ = some (.string (bs m)) := Hp.out.cell 1 (by simp)
      have p2 : w5.cell? ⟨b1, oa + k * 3 + 2, none⟩ = some (.int .i64 e) := Hp.out.cell 2 (by simp)
      have q0 : w5.cell? ⟨b2, ob + k * 3, none⟩ = some (.bool s') := Hq.out.cell 0 (by simp)
      have q1 : w5.cell? ⟨b2, ob + k * 3 + 1, none⟩ = some (.string (bs m')) := Hq.out.cell 1 (by simp)
      have q2 : w5.cell? ⟨b2, ob + k * 3 + 2, none⟩ = some (.int .i64 e') := Hq.out.cell 2 (by simp)
      have a0 : w5.cell? ⟨wr.heap.size, 0, none⟩ = some (.bool s) := Ha.out.cell 0
      have a1 : w5.cell? ⟨wr.heap.size, 1, none⟩ = some (.string (bs m)) := Ha.out.cell 1
      have a2 : w5.cell? ⟨wr.heap.size, 2, none⟩ = some (.int .i64 e) := Ha.out.cell 2
      have a3 : w5.cell? ⟨wr.heap.size, 3, none⟩ = some (.bool s') := Ha.out.cell 3
      have a4 : w5.cell? ⟨wr.heap.size, 4, none⟩ = some (.string (bs m')) := Ha.out.cell 4
      have a5 : w5.cell? ⟨wr.heap.size, 5, none⟩ = some (.int .i64 e') := Ha.out.cell 5
      replace Hb := Lib.hid (bnext Hb.out hbn); clear hbn
      refine hK _ _ (fun _ => ⟨o2, f2, g2, p0, p1, p2, q0, q1, q2⟩) ?_; clear hK K
      try simp only [Act.put, List.setIfInBounds_toArray, List.set_cons_zero, List.set_cons_succ]
      refine planF rfl rfl (fun K hK => ?_)
      go_simp
      refine hK _ _ (fun _ => ⟨cell_new o2, cell_new f2, cell_new g2, cell_new p0, cell_new p1, cell_new p2, cell_new q0, cell_new q1, cell_new q2⟩) ?_; clear hK K
      try simp only [Act.put, List.setIfInBounds_toArray, List.set_cons_zero, List.set_cons_succ]
      refine plan_world (fun w6 => Blk w6 (w5.heap.size) 36 [.bool (sgnB (dN X)), .string (bs (nt (dN X).natAbs)), .int .i64 (dE X)] ∧ Below w5.heap.size w5 w6) (by first | exact ⟨Blk.new _ _ _, (Below.refl _ _).alloc (Nat.le_refl _) _⟩ | exact ⟨Blk.drew (Blk.new _ _ _), ((Below.refl _ _).alloc (Nat.le_refl _) _).drew⟩) ?_
      rintro w6 ⟨qc, hbn⟩
      clear o0 fo0 o1 fo1 o2 fo2
      clear f0 f1 f2
      clear g0 g1 g2
      clear p0 p1 p2
      clear q0 q1 q2
      clear a0 a1 a2 a3 a4 a5
      have lz_o_w6 : w2.heap.size < w5.heap.size := Ho.out.lt
      have lz_f_w6 : w.heap.size < w5.heap.size := Hf.out.lt
      have lz_g_w6 : w.heap.size + 1 < w5.heap.size := Hg.out.lt
      have lz_a_w6 : wr.heap.size < w5.heap.size := Ha.out.lt
      replace Ho := Lib.hid (Ho.out.below hbn)
      replace Hf := Lib.hid (Hf.out.below hbn)
      replace Hg := Lib.hid (Hg.out.below hbn)
      replace Hp := Lib.hid (Hp.out.below hbn)
      replace Hq := Lib.hid (Hq.out.below hbn)
      replace Ha := Lib.hid (Ha.out.below hbn)
      have Hc := Lib.hid qc; clear qc
      have o0 : w6.cell? ⟨w2.heap.size, 0, none⟩ = some (.int .i64 (V : Int)) := Ho.out.cell 0
      have fo0 : w6.frozen? ⟨w2.heap.size, 0, none⟩ = false := Ho.out.free 0
      have o1 : w6.cell? ⟨w2.heap.size, 1, none⟩ = some (.int .i64 (D : Int)) := Ho.out.cell 1
      have fo1 : w6.frozen? ⟨w2.heap.size, 1, none⟩ = false := Ho.out.free 1
      have o2 : w6.cell? ⟨w2.heap.size, 2, none⟩ = some (v) := Ho.out.cell 2
      have fo2 : w6.frozen? ⟨w2.heap.size, 2, none⟩ = false := Ho.out.free 2
      have f0 : w6.cell? ⟨w.heap.size, 0, none⟩ = some (.int .i64 (V : Int)) := Hf.out.cell 0
      have f1 : w6.cell? ⟨w.heap.size, 1, none⟩ = some (.int .i64 (D : Int)) := Hf.out.cell 1
      have f2 : w6.cell? ⟨w.heap.size, 2, none⟩ = some (.slice a N cap) := Hf.out.cell 2
      have g0 : w6.cell? ⟨w.heap.size + 1, 0, none⟩ = some (.int .i64 (V : Int)) := Hg.out.cell 0
      have g1 : w6.cell? ⟨w.heap.size + 1, 1, none⟩ = some (.int .i64 (D : Int)) := Hg.out.cell 1
      have g2 : w6.cell? ⟨w.heap.size + 1, 2, none⟩ = some (.slice a' N cap') := Hg.out.cell 2
      have p0 : w6.cell? ⟨b1, oa + k * 3, none⟩ = some (.bool s) := Hp.out.cell 0 (by simp)
      have p1 : w6.cell? ⟨b1, oa + k * 3 + 1, none⟩ = some (.string (bs m)) := Hp.out.cell 1 (by simp)
      have p2 : w6.cell? ⟨b1, oa + k * 3 + 2, none⟩ = some (.int .i64 e) := Hp.out.cell 2 (by simp)
      have q0 : w6.cell? ⟨b2, ob + k * 3, none⟩ = some (.bool s') := Hq.out.cell 0 (by simp)
      have q1 : w6.cell? ⟨b2, ob + k * 3 + 1, none⟩ = some (.string (bs m')) := Hq.out.cell 1 (by simp)
      have q2 : w6.cell? ⟨b2, ob + k * 3 + 2, none⟩ = some (.int .i64 e') := Hq.out.cell 2 (by simp)
      have a0 : w6.cell? ⟨wr.heap.size, 0, none⟩ = some (.bool s) := Ha.out.cell 0
      have a1 : w6.cell? ⟨wr.heap.size, 1, none⟩ = some (.string (bs m)) := Ha.out.cell 1
      have a2 : w6.cell? ⟨wr.heap.size, 2, none⟩ = some (.int .i64 e) := Ha.out.cell 2
      have a3 : w6.cell? ⟨wr.heap.size, 3, none⟩ = some (.bool s') := Ha.out.cell 3
      have a4 : w6.cell? ⟨wr.heap.size, 4, none⟩ = some (.string (bs m')) := Ha.out.cell 4
      have a5 : w6.cell? ⟨wr.heap.size, 5, none⟩ = some (.int .i64 e') := Ha.out.cell 5
      have c0 : w6.cell? ⟨w5.heap.size, 0, none⟩ = some (.bool (sgnB (dN X))) := Hc.out.cell 0
      have c1 : w6.cell? ⟨w5.heap.size, 1, none⟩ = some (.string (bs (nt (dN X).natAbs))) := Hc.out.cell 1
      have c2 : w6.cell? ⟨w5.heap.size, 2, none⟩ = some (.int .i64 (dE X)) := Hc.out.cell 2
      replace Hb := Lib.hid (bnext Hb.out hbn); clear hbn
      refine planF rfl rfl (fun K hK => ?_)
      have hv6 := ownsRow_below Hv.out Hb.out
      have hs6 := Hb.out.size
      refine wp_append_own _ _ _ 22 rfl w.heap.size 36 i0 _ 3 32 Tryz.underlying22 Hi.out Hz0.out Hz1.out Hz2.out rfl (by decide) v k (dC (Z.take k)) rfl hv6 ⟨w5.heap.size, 0, none⟩ 1 1 [.bool (sgnB (dN X)), .string (bs (nt (dN X).natAbs)), .int .i64 (dE X)] rfl rfl (blk_news Hc.out) (by simp [Value.oneCell']) (by simp [maxLen]; omega) (by omega) (by omega) ?_
      intro v' w7 ho7 hg7 _
      obtain ⟨g', cq, rfl⟩ := ownsRow_succ ho7
      have nb : ∀ b, b < w.heap.size → some b ≠ v.ownBlock := fun b hb e => by have := ownsRow_base hv6 b e.symm; omega
      have ho2 := Ho.out.row (by decide) hv6 hg7; have hf2 := Hf.out.row (by decide) hv6 hg7; have hg2 := Hg.out.row (by decide) hv6 hg7
      have hr2 := (Hr.out.below Hb.out).row (by decide) hv6 hg7
      refine hK _ _ (fun _ => ⟨ho2.cell 2, hf2.cell 2, hg2.cell 2, grownBy_cell hg7 p0 (nb _ lb1), grownBy_cell hg7 p1 (nb _ lb1), grownBy_cell hg7 p2 (nb _ lb1), grownBy_cell hg7 q0 (nb _ lb2), grownBy_cell hg7 q1 (nb _ lb2), grownBy_cell hg7 q2 (nb _ lb2)⟩) ?_; clear hK K
      clear o0 o1 o2 fo0 fo1 fo2 f0 f1 f2 g0 g1 g2 p0 p1 p2 q0 q1 q2 a0 a1 a2 a3 a4 a5 c0 c1 c2
      try simp only [Act.put, List.setIfInBounds_toArray, List.set_cons_zero, List.set_cons_succ]
      refine planT rfl rfl (v := ?_) (fun w' hw' => ?_) ?_; rotate_left; focus (go_simp; try with_reducible rfl)
      try simp only [Act.put, List.setIfInBounds_toArray, List.set_cons_zero, List.set_cons_succ]
      refine planF rfl rfl (fun K hK => ?_)
      have o2 : w7.cell? ⟨w2.heap.size, 2, none⟩ = some v := ho2.cell 2
      have fo2 : w7.frozen? ⟨w2.heap.size, 2, none⟩ = false := ho2.free 2
      have Hnr := Lib.hid (ho2.not_row (by decide) ho7)
      have H1 := Lib.hid ho2; have H2 := Lib.hid hf2; have H3 := Lib.hid hg2; have H4 := Lib.hid hr2; have H5 := Lib.hid ho7; have H6 := Lib.hid hg7; have H7 := Lib.hid hv6
      clear ho2 hf2 hg2 hr2 ho7 hg7 hv6
      go_simp
      refine hK _ _ (fun h => absurd h (by decide)) ?_; clear hK K
      simp only [wpPlan]
      go_wp2
      go_roundw
      case rel =>
        refine ⟨k + 1, by omega, by go_num, .slice (some ⟨g', 0, none⟩) (k + 1) cq, ?_, ?_, ?_, ?_, ?_, ?_⟩
        · rw [Hst.out]
          exact H5.out.kept (grownBy_set (w := w7) (a := ⟨w2.heap.size, 2, none⟩) w2.heap.size rfl _) (.inr Hnr.out.symm)
        · exact H2.out.set_other ⟨w2.heap.size, 2, none⟩ (by dsimp only; omega) _
        · exact H3.out.set_other ⟨w2.heap.size, 2, none⟩ (by dsimp only; omega) _
        · exact H4.out.set_other ⟨w2.heap.size, 2, none⟩ (by dsimp only; omega) _
        · exact H1.out.set 2 _
        · refine Below.setCell ?_ (by dsimp only; omega) _
          exact (bnext Hbr.out Hb.out).grown H6.out (by omega) (fun j e => ownsRow_base H7.out j e)
      case measure => simp [intOf]; omega
    · obtain rfl : k = N := by omega
      have hZl : Z.take k = Z := by rw [List.take_of_length_le]; rw [← HZ.out]; simp [HN.out, Hl.out]
      rw [hZl] at pv
      obtain ⟨a2, cap2, rfl, hat, hab⟩ := ownsRow_at pv
      have Hat := Lib.hid hat; have Hab := Lib.hid hab; have HB := Lib.hid pb; have HR := Lib.hid pR; have HV := Lib.hid pv
      have o0 : wr.cell? ⟨w2.heap.size, 0, none⟩ = some (.int .i64 (V : Int)) := pO.cell 0
      have o1 : wr.cell? ⟨w2.heap.size, 1, none⟩ = some (.int .i64 (D : Int)) := pO.cell 1
      have o2 : wr.cell? ⟨w2.heap.size, 2, none⟩ = some (.slice a2 k cap2) := pO.cell 2
      have f2 : wr.cell? ⟨w.heap.size, 2, none⟩ = some (.slice a k cap) := pF.cell 2
      have r0 : wr.cell? ⟨w.heap.size + 1 + 1, 0, none⟩ = some (.int .i64 0) := pR.cell 0
      have r1 : wr.cell? ⟨w.heap.size + 1 + 1, 1, none⟩ = some (.int .i64 0) := pR.cell 1
      have r2 : wr.cell? ⟨w.heap.size + 1 + 1, 2, none⟩ = some (.slice none 0 0) := pR.cell 2
      have fr0 := pR.free 0; have fr1 := pR.free 1; have fr2 := pR.free 2
      clear pF pG pR pO pb pv hat hab hZl
      go_wp2
      refine bodyPost_ret (v := .tuple #[.agg #[.int .i64 (V : Int), .int .i64 (D : Int), .slice a2 k cap2], .int .i64 0]) (by simp [results, Tryz.results11, go_sem, r0, r1, r2]) rfl ⟨a2, cap2, rfl, ?_, ?_⟩
      · have hne : ∀ b o, a2 = some ⟨b, o, none⟩ → some b ≠ some (w.heap.size + 1 + 1) := by
          intro b o e h
          subst e
          have := HR.out.not_row (by decide) HV.out
          simp [Value.ownBlock] at this h
          omega
        exact ((Hat.out.grown (grownBy_set (w := wr) (a := ⟨w.heap.size + 1 + 1, 0, none⟩) _ rfl (.int .i64 (V : Int))) hne).grown (grownBy_set (a := ⟨w.heap.size + 1 + 1, 1, none⟩) _ rfl (.int .i64 (D : Int))) hne).grown (grownBy_set (a := ⟨w.heap.size + 1 + 1, 2, none⟩) _ rfl _) hne
      · exact (((HB.out.setCell (by dsimp only; omega) _).setCell (by dsimp only; omega) _).setCell (by dsimp only; omega) _)
end Go.Proofs.YtidjljldhdckiaaGreatDoor
