/- Package scast: Split. -/
import Derived.Test.YtidjljldhdckiaaGreatDoorKScast6
namespace Go.Proofs.YtidjljldhdckiaaGreatDoor
open Go.RowKit
attribute [local go_sem ↓] Go.wp_at_zero Go.wp_at_succ

theorem body_world {P : Program} {fn : Func} {R : Ending → World → Prop} {e : Exit} {a : Act} {W : World} (S : World → Prop) (hS : S W) (h : ∀ W', S W' → bodyPost P fn R e a W') : bodyPost P fn R e a W := h W hS

/-- The form of nothing. -/
abbrev sf0 : Value := .agg #[.int .i64 0, .int .i64 0, .slice none 0 0]

set_option maxHeartbeats 2000000 in
theorem split_err (v d : Int) (a : Option Addr) (n cap : Nat) (i j c : Int) (w : World) (hc : chk v d n = c) (h0 : (c != 0) = true) :
    Calls Tryz.prog 7 #[.agg #[.int .i64 v, .int .i64 d, .slice a n cap], .int .i64 i, .int .i64 j] w fun e w' => e = .returned (.tuple #[sf0, sf0, .int .i64 c]) ∧ Below w.heap.size w w' := by
  have Hc := Lib.hid hc; clear hc
  obtain ⟨W, hW_W⟩ : ∃ W, (((w.alloc (.cells #[.int .i64 v, .int .i64 d, .slice a n cap] 24)).alloc (.cells #[.int .i64 0, .int .i64 0, .slice none 0 0] 24)).alloc (.cells #[.int .i64 0, .int .i64 0, .slice none 0 0] 24)) = W := ⟨_, rfl⟩
  have Hb : Hid (Below w.heap.size w W) := by rw [← hW_W]; exact ((((Below.refl _ _).alloc (Nat.le_refl _) _).alloc (by simp <;> omega) _).alloc (by simp <;> omega) _)
  have Hf : Hid (Blk W (w.heap.size) 24 [.int .i64 v, .int .i64 d, .slice a n cap]) := by rw [← hW_W]; exact ((Blk.newAt _ _ _ (by simp)).alloc _).alloc _
  have Hx : Hid (Blk W (w.heap.size + 1) 24 [.int .i64 0, .int .i64 0, .slice none 0 0]) := by rw [← hW_W]; exact (Blk.newAt _ _ _ (by simp)).alloc _
  have Hy : Hid (Blk W (w.heap.size + 1 + 1) 24 [.int .i64 0, .int .i64 0, .slice none 0 0]) := by rw [← hW_W]; exact Blk.newAt _ _ _ (by simp)
  have f0 : W.cell? ⟨w.heap.size, 0, none⟩ = some (.int .i64 v) := Hf.out.cell 0
  have f1 : W.cell? ⟨w.heap.size, 1, none⟩ = some (.int .i64 d) := Hf.out.cell 1
  have f2 : W.cell? ⟨w.heap.size, 2, none⟩ = some (.slice a n cap) := Hf.out.cell 2
  have x0 : W.cell? ⟨w.heap.size + 1, 0, none⟩ = some (.int .i64 0) := Hx.out.cell 0
  have fx0 : W.frozen? ⟨w.heap.size + 1, 0, none⟩ = false := Hx.out.free 0
  have x1 : W.cell? ⟨w.heap.size + 1, 1, none⟩ = some (.int .i64 0) := Hx.out.cell 1
  have fx1 : W.frozen? ⟨w.heap.size + 1, 1, none⟩ = false := Hx.out.free 1
  have x2 : W.cell? ⟨w.heap.size + 1, 2, none⟩ = some (.slice none 0 0) := Hx.out.cell 2
  have fx2 : W.frozen? ⟨w.heap.size + 1, 2, none⟩ = false := Hx.out.free 2
  have y0 : W.cell? ⟨w.heap.size + 1 + 1, 0, none⟩ = some (.int .i64 0) := Hy.out.cell 0
  have fy0 : W.frozen? ⟨w.heap.size + 1 + 1, 0, none⟩ = false := Hy.out.free 0
  have y1 : W.cell? ⟨w.heap.size + 1 + 1, 1, none⟩ = some (.int .i64 0) := Hy.out.cell 1
  have fy1 : W.frozen? ⟨w.heap.size + 1 + 1, 1, none⟩ = false := Hy.out.free 1
  have y2 : W.cell? ⟨w.heap.size + 1 + 1, 2, none⟩ = some (.slice none 0 0) := Hy.out.cell 2
  have fy2 : W.frozen? ⟨w.heap.size + 1 + 1, 2, none⟩ = false := Hy.out.free 2
  go_enter Tryz.func7, Tryz.ntmps7
  go_wp2_with fail
  refine (check_any v d a n cap c Hc.out _).mono ?_
  rintro e w1 ⟨rfl, hbn⟩
  clear f0 f1 f2
  clear x0 fx0 x1 fx1 x2 fx2
  clear y0 fy0 y1 fy1 y2 fy2
  replace Hf := Lib.hid (Hf.out.below hbn)
  replace Hx := Lib.hid (Hx.out.below hbn)
  replace Hy := Lib.hid (Hy.out.below hbn)
  have f0 : w1.cell? ⟨w.heap.size, 0, none⟩ = some (.int .i64 v) := Hf.out.cell 0
  have f1 : w1.cell? ⟨w.heap.size, 1, none⟩ = some (.int .i64 d) := Hf.out.cell 1
  have f2 : w1.cell? ⟨w.heap.size, 2, none⟩ = some (.slice a n cap) := Hf.out.cell 2
  have x0 : w1.cell? ⟨w.heap.size + 1, 0, none⟩ = some (.int .i64 0) := Hx.out.cell 0
  have fx0 : w1.frozen? ⟨w.heap.size + 1, 0, none⟩ = false := Hx.out.free 0
  have x1 : w1.cell? ⟨w.heap.size + 1, 1, none⟩ = some (.int .i64 0) := Hx.out.cell 1
  have fx1 : w1.frozen? ⟨w.heap.size + 1, 1, none⟩ = false := Hx.out.free 1
  have x2 : w1.cell? ⟨w.heap.size + 1, 2, none⟩ = some (.slice none 0 0) := Hx.out.cell 2
  have fx2 : w1.frozen? ⟨w.heap.size + 1, 2, none⟩ = false := Hx.out.free 2
  have y0 : w1.cell? ⟨w.heap.size + 1 + 1, 0, none⟩ = some (.int .i64 0) := Hy.out.cell 0
  have fy0 : w1.frozen? ⟨w.heap.size + 1 + 1, 0, none⟩ = false := Hy.out.free 0
  have y1 : w1.cell? ⟨w.heap.size + 1 + 1, 1, none⟩ = some (.int .i64 0) := Hy.out.cell 1
  have fy1 : w1.frozen? ⟨w.heap.size + 1 + 1, 1, none⟩ = false := Hy.out.free 1
  have y2 : w1.cell? ⟨w.heap.size + 1 + 1, 2, none⟩ = some (.slice none 0 0) := Hy.out.cell 2
  have fy2 : w1.frozen? ⟨w.heap.size + 1 + 1, 2, none⟩ = false := Hy.out.free 2
  replace Hb := Lib.hid (bnext Hb.out hbn); clear hbn
  go_wp2
  clear f0 f1 f2
  clear x0 fx0 x1 fx1 x2 fx2
  clear y0 fy0 y1 fy1 y2 fy2
  refine body_world (fun w9 => Blk w9 (w.heap.size) 24 [.int .i64 v, .int .i64 d, .slice a n cap] ∧ Blk w9 (w.heap.size + 1) 24 [.int .i64 0, .int .i64 0, .slice none 0 0] ∧ Blk w9 (w.heap.size + 1 + 1) 24 [.int .i64 0, .int .i64 0, .slice none 0 0] ∧ Below w.heap.size w w9) ⟨((((((Hf.out.set_other ⟨w.heap.size + 1, 0, none⟩ (by first | (dsimp only; omega) | (show _ ≠ _; omega) | (simp <;> omega)) _).set_other ⟨w.heap.size + 1, 1, none⟩ (by first | (dsimp only; omega) | (show _ ≠ _; omega) | (simp <;> omega)) _).set_other ⟨w.heap.size + 1, 2, none⟩ (by first | (dsimp only; omega) | (show _ ≠ _; omega) | (simp <;> omega)) _).set_other ⟨w.heap.size + 1 + 1, 0, none⟩ (by first | (dsimp only; omega) | (show _ ≠ _; omega) | (simp <;> omega)) _).set_other ⟨w.heap.size + 1 + 1, 1, none⟩ (by first | (dsimp only; omega) | (show _ ≠ _; omega) | (simp <;> omega)) _).set_other ⟨w.heap.size + 1 + 1, 2, none⟩ (by first | (dsimp only; omega) | (show _ ≠ _; omega) | (simp <;> omega)) _), ((((((Hx.out.set 0 _).set 1 _).set 2 _).set_other ⟨w.heap.size + 1 + 1, 0, none⟩ (by first | (dsimp only; omega) | (show _ ≠ _; omega) | (simp <;> omega)) _).set_other ⟨w.heap.size + 1 + 1, 1, none⟩ (by first | (dsimp only; omega) | (show _ ≠ _; omega) | (simp <;> omega)) _).set_other ⟨w.heap.size + 1 + 1, 2, none⟩ (by first | (dsimp only; omega) | (show _ ≠ _; omega) | (simp <;> omega)) _), ((((((Hy.out.set_other ⟨w.heap.size + 1, 0, none⟩ (by first | (dsimp only; omega) | (show _ ≠ _; omega) | (simp <;> omega)) _).set_other ⟨w.heap.size + 1, 1, none⟩ (by first | (dsimp only; omega) | (show _ ≠ _; omega) | (simp <;> omega)) _).set_other ⟨w.heap.size + 1, 2, none⟩ (by first | (dsimp only; omega) | (show _ ≠ _; omega) | (simp <;> omega)) _).set 0 _).set 1 _).set 2 _), ((((((Hb.out.setCell (p := ⟨w.heap.size + 1, 0, none⟩) (by have := Hb.out.size; first | (dsimp only; omega) | (show _ ≤ _; omega) | (simp <;> omega)) _).setCell (p := ⟨w.heap.size + 1, 1, none⟩) (by have := Hb.out.size; first | (dsimp only; omega) | (show _ ≤ _; omega) | (simp <;> omega)) _).setCell (p := ⟨w.heap.size + 1, 2, none⟩) (by have := Hb.out.size; first | (dsimp only; omega) | (show _ ≤ _; omega) | (simp <;> omega)) _).setCell (p := ⟨w.heap.size + 1 + 1, 0, none⟩) (by have := Hb.out.size; first | (dsimp only; omega) | (show _ ≤ _; omega) | (simp <;> omega)) _).setCell (p := ⟨w.heap.size + 1 + 1, 1, none⟩) (by have := Hb.out.size; first | (dsimp only; omega) | (show _ ≤ _; omega) | (simp <;> omega)) _).setCell (p := ⟨w.heap.size + 1 + 1, 2, none⟩) (by have := Hb.out.size; first | (dsimp only; omega) | (show _ ≤ _; omega) | (simp <;> omega)) _)⟩ ?_
  rintro w9 ⟨qf, qx, qy, hbn⟩
  replace Hf := Lib.hid qf; clear qf
  replace Hx := Lib.hid qx; clear qx
  replace Hy := Lib.hid qy; clear qy
  have f0 : w9.cell? ⟨w.heap.size, 0, none⟩ = some (.int .i64 v) := Hf.out.cell 0
  have f1 : w9.cell? ⟨w.heap.size, 1, none⟩ = some (.int .i64 d) := Hf.out.cell 1
  have f2 : w9.cell? ⟨w.heap.size, 2, none⟩ = some (.slice a n cap) := Hf.out.cell 2
  have x0 : w9.cell? ⟨w.heap.size + 1, 0, none⟩ = some (.int .i64 0) := Hx.out.cell 0
  have fx0 : w9.frozen? ⟨w.heap.size + 1, 0, none⟩ = false := Hx.out.free 0
  have x1 : w9.cell? ⟨w.heap.size + 1, 1, none⟩ = some (.int .i64 0) := Hx.out.cell 1
  have fx1 : w9.frozen? ⟨w.heap.size + 1, 1, none⟩ = false := Hx.out.free 1
  have x2 : w9.cell? ⟨w.heap.size + 1, 2, none⟩ = some (.slice none 0 0) := Hx.out.cell 2
  have fx2 : w9.frozen? ⟨w.heap.size + 1, 2, none⟩ = false := Hx.out.free 2
  have y0 : w9.cell? ⟨w.heap.size + 1 + 1, 0, none⟩ = some (.int .i64 0) := Hy.out.cell 0
  have fy0 : w9.frozen? ⟨w.heap.size + 1 + 1, 0, none⟩ = false := Hy.out.free 0
  have y1 : w9.cell? ⟨w.heap.size + 1 + 1, 1, none⟩ = some (.int .i64 0) := Hy.out.cell 1
  have fy1 : w9.frozen? ⟨w.heap.size + 1 + 1, 1, none⟩ = false := Hy.out.free 1
  have y2 : w9.cell? ⟨w.heap.size + 1 + 1, 2, none⟩ = some (.slice none 0 0) := Hy.out.cell 2
  have fy2 : w9.frozen? ⟨w.heap.size + 1 + 1, 2, none⟩ = false := Hy.out.free 2
  replace Hb := Lib.hid hbn; clear hbn
  refine bodyPost_ret (v := .tuple #[sf0, sf0, .int .i64 c]) (by simp [results, Tryz.results7, go_sem, x0, x1, x2, y0, y1, y2]) rfl ⟨rfl, Hb.out⟩

set_option maxHeartbeats 2000000 in
theorem split_arg (v d : Int) (a : Option Addr) (n cap : Nat) (i j : Int) (w : World) (hc : chk v d n = 0) (h0 : ¬ (0 ≤ i ∧ i ≤ v ∧ 0 ≤ j ∧ j ≤ v ∧ i ≠ j)) :
    Calls Tryz.prog 7 #[.agg #[.int .i64 v, .int .i64 d, .slice a n cap], .int .i64 i, .int .i64 j] w fun e w' => e = .returned (.tuple #[sf0, sf0, .int .i64 1]) ∧ Below w.heap.size w w' := by
  have Hc := Lib.hid hc; clear hc
  have h1 := has_any v d a n cap i
  have h2 := has_any v d a n cap j
  by_cases e1 : 0 ≤ i ∧ i ≤ v
  · rw [decide_eq_true e1] at h1
    by_cases e2 : 0 ≤ j ∧ j ≤ v
    · rw [decide_eq_true e2] at h2
      have h3 : i = j := by omega
      have h4 : (i == j) = true := by simp [h3]
      have H1 := Lib.hid h1; have H2 := Lib.hid h2
      clear h1 h2 h3 e1 e2 h0
      obtain ⟨W, hW_W⟩ : ∃ W, (((w.alloc (.cells #[.int .i64 v, .int .i64 d, .slice a n cap] 24)).alloc (.cells #[.int .i64 0, .int .i64 0, .slice none 0 0] 24)).alloc (.cells #[.int .i64 0, .int .i64 0, .slice none 0 0] 24)) = W := ⟨_, rfl⟩
      have Hb : Hid (Below w.heap.size w W) := by rw [← hW_W]; exact ((((Below.refl _ _).alloc (Nat.le_refl _) _).alloc (by simp <;> omega) _).alloc (by simp <;> omega) _)
      have Hf : Hid (Blk W (w.heap.size) 24 [.int .i64 v, .int .i64 d, .slice a n cap]) := by rw [← hW_W]; exact ((Blk.newAt _ _ _ (by simp)).alloc _).alloc _
      have Hx : Hid (Blk W (w.heap.size + 1) 24 [.int .i64 0, .int .i64 0, .slice none 0 0]) := by rw [← hW_W]; exact (Blk.newAt _ _ _ (by simp)).alloc _
      have Hy : Hid (Blk W (w.heap.size + 1 + 1) 24 [.int .i64 0, .int .i64 0, .slice none 0 0]) := by rw [← hW_W]; exact Blk.newAt _ _ _ (by simp)
      have f0 : W.cell? ⟨w.heap.size, 0, none⟩ = some (.int .i64 v) := Hf.out.cell 0
      have f1 : W.cell? ⟨w.heap.size, 1, none⟩ = some (.int .i64 d) := Hf.out.cell 1
      have f2 : W.cell? ⟨w.heap.size, 2, none⟩ = some (.slice a n cap) := Hf.out.cell 2
      have x0 : W.cell? ⟨w.heap.size + 1, 0, none⟩ = some (.int .i64 0) := Hx.out.cell 0
      have fx0 : W.frozen? ⟨w.heap.size + 1, 0, none⟩ = false := Hx.out.free 0
      have x1 : W.cell? ⟨w.heap.size + 1, 1, none⟩ = some (.int .i64 0) := Hx.out.cell 1
      have fx1 : W.frozen? ⟨w.heap.size + 1, 1, none⟩ = false := Hx.out.free 1
      have x2 : W.cell? ⟨w.heap.size + 1, 2, none⟩ = some (.slice none 0 0) := Hx.out.cell 2
      have fx2 : W.frozen? ⟨w.heap.size + 1, 2, none⟩ = false := Hx.out.free 2
      have y0 : W.cell? ⟨w.heap.size + 1 + 1, 0, none⟩ = some (.int .i64 0) := Hy.out.cell 0
      have fy0 : W.frozen? ⟨w.heap.size + 1 + 1, 0, none⟩ = false := Hy.out.free 0
      have y1 : W.cell? ⟨w.heap.size + 1 + 1, 1, none⟩ = some (.int .i64 0) := Hy.out.cell 1
      have fy1 : W.frozen? ⟨w.heap.size + 1 + 1, 1, none⟩ = false := Hy.out.free 1
      have y2 : W.cell? ⟨w.heap.size + 1 + 1, 2, none⟩ = some (.slice none 0 0) := Hy.out.cell 2
      have fy2 : W.frozen? ⟨w.heap.size + 1 + 1, 2, none⟩ = false := Hy.out.free 2
      go_enter Tryz.func7, Tryz.ntmps7
      go_wp2_with fail
      refine (check_any v d a n cap 0 Hc.out _).mono ?_
      rintro e w1 ⟨rfl, hbn⟩
      clear f0 f1 f2
      clear x0 fx0 x1 fx1 x2 fx2
      clear y0 fy0 y1 fy1 y2 fy2
      replace Hf := Lib.hid (Hf.out.below hbn)
      replace Hx := Lib.hid (Hx.out.below hbn)
      replace Hy := Lib.hid (Hy.out.below hbn)
      have f0 : w1.cell? ⟨w.heap.size, 0, none⟩ = some (.int .i64 v) := Hf.out.cell 0
      have f1 : w1.cell? ⟨w.heap.size, 1, none⟩ = some (.int .i64 d) := Hf.out.cell 1
      have f2 : w1.cell? ⟨w.heap.size, 2, none⟩ = some (.slice a n cap) := Hf.out.cell 2
      have x0 : w1.cell? ⟨w.heap.size + 1, 0, none⟩ = some (.int .i64 0) := Hx.out.cell 0
      have fx0 : w1.frozen? ⟨w.heap.size + 1, 0, none⟩ = false := Hx.out.free 0
      have x1 : w1.cell? ⟨w.heap.size + 1, 1, none⟩ = some (.int .i64 0) := Hx.out.cell 1
      have fx1 : w1.frozen? ⟨w.heap.size + 1, 1, none⟩ = false := Hx.out.free 1
      have x2 : w1.cell? ⟨w.heap.size + 1, 2, none⟩ = some (.slice none 0 0) := Hx.out.cell 2
      have fx2 : w1.frozen? ⟨w.heap.size + 1, 2, none⟩ = false := Hx.out.free 2
      have y0 : w1.cell? ⟨w.heap.size + 1 + 1, 0, none⟩ = some (.int .i64 0) := Hy.out.cell 0
      have fy0 : w1.frozen? ⟨w.heap.size + 1 + 1, 0, none⟩ = false := Hy.out.free 0
      have y1 : w1.cell? ⟨w.heap.size + 1 + 1, 1, none⟩ = some (.int .i64 0) := Hy.out.cell 1
      have fy1 : w1.frozen? ⟨w.heap.size + 1 + 1, 1, none⟩ = false := Hy.out.free 1
      have y2 : w1.cell? ⟨w.heap.size + 1 + 1, 2, none⟩ = some (.slice none 0 0) := Hy.out.cell 2
      have fy2 : w1.frozen? ⟨w.heap.size + 1 + 1, 2, none⟩ = false := Hy.out.free 2
      replace Hb := Lib.hid (bnext Hb.out hbn); clear hbn
      go_wp2_with fail
      refine (H1.out _).mono ?_
      rintro e w2 ⟨rfl, hbn⟩
      clear f0 f1 f2
      clear x0 fx0 x1 fx1 x2 fx2
      clear y0 fy0 y1 fy1 y2 fy2
      replace Hf := Lib.hid (Hf.out.below hbn)
      replace Hx := Lib.hid (Hx.out.below hbn)
      replace Hy := Lib.hid (Hy.out.below hbn)
      have f0 : w2.cell? ⟨w.heap.size, 0, none⟩ = some (.int .i64 v) := Hf.out.cell 0
      have f1 : w2.cell? ⟨w.heap.size, 1, none⟩ = some (.int .i64 d) := Hf.out.cell 1
      have f2 : w2.cell? ⟨w.heap.size, 2, none⟩ = some (.slice a n cap) := Hf.out.cell 2
      have x0 : w2.cell? ⟨w.heap.size + 1, 0, none⟩ = some (.int .i64 0) := Hx.out.cell 0
      have fx0 : w2.frozen? ⟨w.heap.size + 1, 0, none⟩ = false := Hx.out.free 0
      have x1 : w2.cell? ⟨w.heap.size + 1, 1, none⟩ = some (.int .i64 0) := Hx.out.cell 1
      have fx1 : w2.frozen? ⟨w.heap.size + 1, 1, none⟩ = false := Hx.out.free 1
      have x2 : w2.cell? ⟨w.heap.size + 1, 2, none⟩ = some (.slice none 0 0) := Hx.out.cell 2
      have fx2 : w2.frozen? ⟨w.heap.size + 1, 2, none⟩ = false := Hx.out.free 2
      have y0 : w2.cell? ⟨w.heap.size + 1 + 1, 0, none⟩ = some (.int .i64 0) := Hy.out.cell 0
      have fy0 : w2.frozen? ⟨w.heap.size + 1 + 1, 0, none⟩ = false := Hy.out.free 0
      have y1 : w2.cell? ⟨w.heap.size + 1 + 1, 1, none⟩ = some (.int .i64 0) := Hy.out.cell 1
      have fy1 : w2.frozen? ⟨w.heap.size + 1 + 1, 1, none⟩ = false := Hy.out.free 1
      have y2 : w2.cell? ⟨w.heap.size + 1 + 1, 2, none⟩ = some (.slice none 0 0) := Hy.out.cell 2
      have fy2 : w2.frozen? ⟨w.heap.size + 1 + 1, 2, none⟩ = false := Hy.out.free 2
      replace Hb := Lib.hid (bnext Hb.out hbn); clear hbn
      go_wp2_with fail
      refine (H2.out _).mono ?_
      rintro e w3 ⟨rfl, hbn⟩
      clear f0 f1 f2
      clear x0 fx0 x1 fx1 x2 fx2
      clear y0 fy0 y1 fy1 y2 fy2
      replace Hf := Lib.hid (Hf.out.below hbn)
      replace Hx := Lib.hid (Hx.out.below hbn)
      replace Hy := Lib.hid (Hy.out.below hbn)
      have f0 : w3.cell? ⟨w.heap.size, 0, none⟩ = some (.int .i64 v) := Hf.out.cell 0
      have f1 : w3.cell? ⟨w.heap.size, 1, none⟩ = some (.int .i64 d) := Hf.out.cell 1
      have f2 : w3.cell? ⟨w.heap.size, 2, none⟩ = some (.slice a n cap) := Hf.out.cell 2
      have x0 : w3.cell? ⟨w.heap.size + 1, 0, none⟩ = some (.int .i64 0) := Hx.out.cell 0
      have fx0 : w3.frozen? ⟨w.heap.size + 1, 0, none⟩ = false := Hx.out.free 0
      have x1 : w3.cell? ⟨w.heap.size + 1, 1, none⟩ = some (.int .i64 0) := Hx.out.cell 1
      have fx1 : w3.frozen? ⟨w.heap.size + 1, 1, none⟩ = false := Hx.out.free 1
      have x2 : w3.cell? ⟨w.heap.size + 1, 2, none⟩ = some (.slice none 0 0) := Hx.out.cell 2
      have fx2 : w3.frozen? ⟨w.heap.size + 1, 2, none⟩ = false := Hx.out.free 2
      have y0 : w3.cell? ⟨w.heap.size + 1 + 1, 0, none⟩ = some (.int .i64 0) := Hy.out.cell 0
      have fy0 : w3.frozen? ⟨w.heap.size + 1 + 1, 0, none⟩ = false := Hy.out.free 0
      have y1 : w3.cell? ⟨w.heap.size + 1 + 1, 1, none⟩ = some (.int .i64 0) := Hy.out.cell 1
      have fy1 : w3.frozen? ⟨w.heap.size + 1 + 1, 1, none⟩ = false := Hy.out.free 1
      have y2 : w3.cell? ⟨w.heap.size + 1 + 1, 2, none⟩ = some (.slice none 0 0) := Hy.out.cell 2
      have fy2 : w3.frozen? ⟨w.heap.size + 1 + 1, 2, none⟩ = false := Hy.out.free 2
      replace Hb := Lib.hid (bnext Hb.out hbn); clear hbn
      go_wp2
      clear f0 f1 f2
      clear x0 fx0 x1 fx1 x2 fx2
      clear y0 fy0 y1 fy1 y2 fy2
      refine body_world (fun w9 => Blk w9 (w.heap.size) 24 [.int .i64 v, .int .i64 d, .slice a n cap] ∧ Blk w9 (w.heap.size + 1) 24 [.int .i64 0, .int .i64 0, .slice none 0 0] ∧ Blk w9 (w.heap.size + 1 + 1) 24 [.int .i64 0, .int .i64 0, .slice none 0 0] ∧ Below w.heap.size w w9) ⟨((((((Hf.out.set_other ⟨w.heap.size + 1, 0, none⟩ (by first | (dsimp only; omega) | (show _ ≠ _; omega) | (simp <;> omega)) _).set_other ⟨w.heap.size + 1, 1, none⟩ (by first | (dsimp only; omega) | (show _ ≠ _; omega) | (simp <;> omega)) _).set_other ⟨w.heap.size + 1, 2, none⟩ (by first | (dsimp only; omega) | (show _ ≠ _; omega) | (simp <;> omega)) _).set_other ⟨w.heap.size + 1 + 1, 0, none⟩ (by first | (dsimp only; omega) | (show _ ≠ _; omega) | (simp <;> omega)) _).set_other ⟨w.heap.size + 1 + 1, 1, none⟩ (by first | (dsimp only; omega) | (show _ ≠ _; omega) | (simp <;> omega)) _).set_other ⟨w.heap.size + 1 + 1, 2, none⟩ (by first | (dsimp only; omega) | (show _ ≠ _; omega) | (simp <;> omega)) _), ((((((Hx.out.set 0 _).set 1 _).set 2 _).set_other ⟨w.heap.size + 1 + 1, 0, none⟩ (by first | (dsimp only; omega) | (show _ ≠ _; omega) | (simp <;> omega)) _).set_other ⟨w.heap.size + 1 + 1, 1, none⟩ (by first | (dsimp only; omega) | (show _ ≠ _; omega) | (simp <;> omega)) _).set_other ⟨w.heap.size + 1 + 1, 2, none⟩ (by first | (dsimp only; omega) | (show _ ≠ _; omega) | (simp <;> omega)) _), ((((((Hy.out.set_other ⟨w.heap.size + 1, 0, none⟩ (by first | (dsimp only; omega) | (show _ ≠ _; omega) | (simp <;> omega)) _).set_other ⟨w.heap.size + 1, 1, none⟩ (by first | (dsimp only; omega) | (show _ ≠ _; omega) | (simp <;> omega)) _).set_other ⟨w.heap.size + 1, 2, none⟩ (by first | (dsimp only; omega) | (show _ ≠ _; omega) | (simp <;> omega)) _).set 0 _).set 1 _).set 2 _), ((((((Hb.out.setCell (p := ⟨w.heap.size + 1, 0, none⟩) (by have := Hb.out.size; first | (dsimp only; omega) | (show _ ≤ _; omega) | (simp <;> omega)) _).setCell (p := ⟨w.heap.size + 1, 1, none⟩) (by have := Hb.out.size; first | (dsimp only; omega) | (show _ ≤ _; omega) | (simp <;> omega)) _).setCell (p := ⟨w.heap.size + 1, 2, none⟩) (by have := Hb.out.size; first | (dsimp only; omega) | (show _ ≤ _; omega) | (simp <;> omega)) _).setCell (p := ⟨w.heap.size + 1 + 1, 0, none⟩) (by have := Hb.out.size; first | (dsimp only; omega) | (show _ ≤ _; omega) | (simp <;> omega)) _).setCell (p := ⟨w.heap.size + 1 + 1, 1, none⟩) (by have := Hb.out.size; first | (dsimp only; omega) | (show _ ≤ _; omega) | (simp <;> omega)) _).setCell (p := ⟨w.heap.size + 1 + 1, 2, none⟩) (by have := Hb.out.size; first | (dsimp only; omega) | (show _ ≤ _; omega) | (simp <;> omega)) _)⟩ ?_
      rintro w9 ⟨qf, qx, qy, hbn⟩
      replace Hf := Lib.hid qf; clear qf
      replace Hx := Lib.hid qx; clear qx
      replace Hy := Lib.hid qy; clear qy
      have f0 : w9.cell? ⟨w.heap.size, 0, none⟩ = some (.int .i64 v) := Hf.out.cell 0
      have f1 : w9.cell? ⟨w.heap.size, 1, none⟩ = some (.int .i64 d) := Hf.out.cell 1
      have f2 : w9.cell? ⟨w.heap.size, 2, none⟩ = some (.slice a n cap) := Hf.out.cell 2
      have x0 : w9.cell? ⟨w.heap.size + 1, 0, none⟩ = some (.int .i64 0) := Hx.out.cell 0
      have fx0 : w9.frozen? ⟨w.heap.size + 1, 0, none⟩ = false := Hx.out.free 0
      have x1 : w9.cell? ⟨w.heap.size + 1, 1, none⟩ = some (.int .i64 0) := Hx.out.cell 1
      have fx1 : w9.frozen? ⟨w.heap.size + 1, 1, none⟩ = false := Hx.out.free 1
      have x2 : w9.cell? ⟨w.heap.size + 1, 2, none⟩ = some (.slice none 0 0) := Hx.out.cell 2
      have fx2 : w9.frozen? ⟨w.heap.size + 1, 2, none⟩ = false := Hx.out.free 2
      have y0 : w9.cell? ⟨w.heap.size + 1 + 1, 0, none⟩ = some (.int .i64 0) := Hy.out.cell 0
      have fy0 : w9.frozen? ⟨w.heap.size + 1 + 1, 0, none⟩ = false := Hy.out.free 0
      have y1 : w9.cell? ⟨w.heap.size + 1 + 1, 1, none⟩ = some (.int .i64 0) := Hy.out.cell 1
      have fy1 : w9.frozen? ⟨w.heap.size + 1 + 1, 1, none⟩ = false := Hy.out.free 1
      have y2 : w9.cell? ⟨w.heap.size + 1 + 1, 2, none⟩ = some (.slice none 0 0) := Hy.out.cell 2
      have fy2 : w9.frozen? ⟨w.heap.size + 1 + 1, 2, none⟩ = false := Hy.out.free 2
      replace Hb := Lib.hid hbn; clear hbn
      refine bodyPost_ret (v := .tuple #[sf0, sf0, .int .i64 1]) (by simp [results, Tryz.results7, go_sem, x0, x1, x2, y0, y1, y2]) rfl ⟨rfl, Hb.out⟩
    · rw [decide_eq_false e2] at h2
      have H1 := Lib.hid h1; have H2 := Lib.hid h2
      clear h1 h2 e1 e2 h0
      obtain ⟨W, hW_W⟩ : ∃ W, (((w.alloc (.cells #[.int .i64 v, .int .i64 d, .slice a n cap] 24)).alloc (.cells #[.int .i64 0, .int .i64 0, .slice none 0 0] 24)).alloc (.cells #[.int .i64 0, .int .i64 0, .slice none 0 0] 24)) = W := ⟨_, rfl⟩
      have Hb : Hid (Below w.heap.size w W) := by rw [← hW_W]; exact ((((Below.refl _ _).alloc (Nat.le_refl _) _).alloc (by simp <;> omega) _).alloc (by simp <;> omega) _)
      have Hf : Hid (Blk W (w.heap.size) 24 [.int .i64 v, .int .i64 d, .slice a n cap]) := by rw [← hW_W]; exact ((Blk.newAt _ _ _ (by simp)).alloc _).alloc _
      have Hx : Hid (Blk W (w.heap.size + 1) 24 [.int .i64 0, .int .i64 0, .slice none 0 0]) := by rw [← hW_W]; exact (Blk.newAt _ _ _ (by simp)).alloc _
      have Hy : Hid (Blk W (w.heap.size + 1 + 1) 24 [.int .i64 0, .int .i64 0, .slice none 0 0]) := by rw [← hW_W]; exact Blk.newAt _ _ _ (by simp)
      have f0 : W.cell? ⟨w.heap.size, 0, none⟩ = some (.int .i64 v) := Hf.out.cell 0
      have f1 : W.cell? ⟨w.heap.size, 1, none⟩ = some (.int .i64 d) := Hf.out.cell 1
      have f2 : W.cell? ⟨w.heap.size, 2, none⟩ = some (.slice a n cap) := Hf.out.cell 2
      have x0 : W.cell? ⟨w.heap.size + 1, 0, none⟩ = some (.int .i64 0) := Hx.out.cell 0
      have fx0 : W.frozen? ⟨w.heap.size + 1, 0, none⟩ = false := Hx.out.free 0
      have x1 : W.cell? ⟨w.heap.size + 1, 1, none⟩ = some (.int .i64 0) := Hx.out.cell 1
      have fx1 : W.frozen? ⟨w.heap.size + 1, 1, none⟩ = false := Hx.out.free 1
      have x2 : W.cell? ⟨w.heap.size + 1, 2, none⟩ = some (.slice none 0 0) := Hx.out.cell 2
      have fx2 : W.frozen? ⟨w.heap.size + 1, 2, none⟩ = false := Hx.out.free 2
      have y0 : W.cell? ⟨w.heap.size + 1 + 1, 0, none⟩ = some (.int .i64 0) := Hy.out.cell 0
      have fy0 : W.frozen? ⟨w.heap.size + 1 + 1, 0, none⟩ = false := Hy.out.free 0
      have y1 : W.cell? ⟨w.heap.size + 1 + 1, 1, none⟩ = some (.int .i64 0) := Hy.out.cell 1
      have fy1 : W.frozen? ⟨w.heap.size + 1 + 1, 1, none⟩ = false := Hy.out.free 1
      have y2 : W.cell? ⟨w.heap.size + 1 + 1, 2, none⟩ = some (.slice none 0 0) := Hy.out.cell 2
      have fy2 : W.frozen? ⟨w.heap.size + 1 + 1, 2, none⟩ = false := Hy.out.free 2
      go_enter Tryz.func7, Tryz.ntmps7
      go_wp2_with fail
      refine (check_any v d a n cap 0 Hc.out _).mono ?_
      rintro e w1 ⟨rfl, hbn⟩
      clear f0 f1 f2
      clear x0 fx0 x1 fx1 x2 fx2
      clear y0 fy0 y1 fy1 y2 fy2
      replace Hf := Lib.hid (Hf.out.below hbn)
      replace Hx := Lib.hid (Hx.out.below hbn)
      replace Hy := Lib.hid (Hy.out.below hbn)
      have f0 : w1.cell? ⟨w.heap.size, 0, none⟩ = some (.int .i64 v) := Hf.out.cell 0
      have f1 : w1.cell? ⟨w.heap.size, 1, none⟩ = some (.int .i64 d) := Hf.out.cell 1
      have f2 : w1.cell? ⟨w.heap.size, 2, none⟩ = some (.slice a n cap) := Hf.out.cell 2
      have x0 : w1.cell? ⟨w.heap.size + 1, 0, none⟩ = some (.int .i64 0) := Hx.out.cell 0
      have fx0 : w1.frozen? ⟨w.heap.size + 1, 0, none⟩ = false := Hx.out.free 0
      have x1 : w1.cell? ⟨w.heap.size + 1, 1, none⟩ = some (.int .i64 0) := Hx.out.cell 1
      have fx1 : w1.frozen? ⟨w.heap.size + 1, 1, none⟩ = false := Hx.out.free 1
      have x2 : w1.cell? ⟨w.heap.size + 1, 2, none⟩ = some (.slice none 0 0) := Hx.out.cell 2
      have fx2 : w1.frozen? ⟨w.heap.size + 1, 2, none⟩ = false := Hx.out.free 2
      have y0 : w1.cell? ⟨w.heap.size + 1 + 1, 0, none⟩ = some (.int .i64 0) := Hy.out.cell 0
      have fy0 : w1.frozen? ⟨w.heap.size + 1 + 1, 0, none⟩ = false := Hy.out.free 0
      have y1 : w1.cell? ⟨w.heap.size + 1 + 1, 1, none⟩ = some (.int .i64 0) := Hy.out.cell 1
      have fy1 : w1.frozen? ⟨w.heap.size + 1 + 1, 1, none⟩ = false := Hy.out.free 1
      have y2 : w1.cell? ⟨w.heap.size + 1 + 1, 2, none⟩ = some (.slice none 0 0) := Hy.out.cell 2
      have fy2 : w1.frozen? ⟨w.heap.size + 1 + 1, 2, none⟩ = false := Hy.out.free 2
      replace Hb := Lib.hid (bnext Hb.out hbn); clear hbn
      go_wp2_with fail
      refine (H1.out _).mono ?_
      rintro e w2 ⟨rfl, hbn⟩
      clear f0 f1 f2
      clear x0 fx0 x1 fx1 x2 fx2
      clear y0 fy0 y1 fy1 y2 fy2
      replace Hf := Lib.hid (Hf.out.below hbn)
      replace Hx := Lib.hid (Hx.out.below hbn)
      replace Hy := Lib.hid (Hy.out.below hbn)
      have f0 : w2.cell? ⟨w.heap.size, 0, none⟩ = some (.int .i64 v) := Hf.out.cell 0
      have f1 : w2.cell? ⟨w.heap.size, 1, none⟩ = some (.int .i64 d) := Hf.out.cell 1
      have f2 : w2.cell? ⟨w.heap.size, 2, none⟩ = some (.slice a n cap) := Hf.out.cell 2
      have x0 : w2.cell? ⟨w.heap.size + 1, 0, none⟩ = some (.int .i64 0) := Hx.out.cell 0
      have fx0 : w2.frozen? ⟨w.heap.size + 1, 0, none⟩ = false := Hx.out.free 0
      have x1 : w2.cell? ⟨w.heap.size + 1, 1, none⟩ = some (.int .i64 0) := Hx.out.cell 1
      have fx1 : w2.frozen? ⟨w.heap.size + 1, 1, none⟩ = false := Hx.out.free 1
      have x2 : w2.cell? ⟨w.heap.size + 1, 2, none⟩ = some (.slice none 0 0) := Hx.out.cell 2
      have fx2 : w2.frozen? ⟨w.heap.size + 1, 2, none⟩ = false := Hx.out.free 2
      have y0 : w2.cell? ⟨w.heap.size + 1 + 1, 0, none⟩ = some (.int .i64 0) := Hy.out.cell 0
      have fy0 : w2.frozen? ⟨w.heap.size + 1 + 1, 0, none⟩ = false := Hy.out.free 0
      have y1 : w2.cell? ⟨w.heap.size + 1 + 1, 1, none⟩ = some (.int .i64 0) := Hy.out.cell 1
      have fy1 : w2.frozen? ⟨w.heap.size + 1 + 1, 1, none⟩ = false := Hy.out.free 1
      have y2 : w2.cell? ⟨w.heap.size + 1 + 1, 2, none⟩ = some (.slice none 0 0) := Hy.out.cell 2
      have fy2 : w2.frozen? ⟨w.heap.size + 1 + 1, 2, none⟩ = false := Hy.out.free 2
      replace Hb := Lib.hid (bnext Hb.out hbn); clear hbn
      go_wp2_with fail
      refine (H2.out _).mono ?_
      rintro e w3 ⟨rfl, hbn⟩
      clear f0 f1 f2
      clear x0 fx0 x1 fx1 x2 fx2
      clear y0 fy0 y1 fy1 y2 fy2
      replace Hf := Lib.hid (Hf.out.below hbn)
      replace Hx := Lib.hid (Hx.out.below hbn)
      replace Hy := Lib.hid (Hy.out.below hbn)
      have f0 : w3.cell? ⟨w.heap.size, 0, none⟩ = some (.int .i64 v) := Hf.out.cell 0
      have f1 : w3.cell? ⟨w.heap.size, 1, none⟩ = some (.int .i64 d) := Hf.out.cell 1
      have f2 : w3.cell? ⟨w.heap.size, 2, none⟩ = some (.slice a n cap) := Hf.out.cell 2
      have x0 : w3.cell? ⟨w.heap.size + 1, 0, none⟩ = some (.int .i64 0) := Hx.out.cell 0
      have fx0 : w3.frozen? ⟨w.heap.size + 1, 0, none⟩ = false := Hx.out.free 0
      have x1 : w3.cell? ⟨w.heap.size + 1, 1, none⟩ = some (.int .i64 0) := Hx.out.cell 1
      have fx1 : w3.frozen? ⟨w.heap.size + 1, 1, none⟩ = false := Hx.out.free 1
      have x2 : w3.cell? ⟨w.heap.size + 1, 2, none⟩ = some (.slice none 0 0) := Hx.out.cell 2
      have fx2 : w3.frozen? ⟨w.heap.size + 1, 2, none⟩ = false := Hx.out.free 2
      have y0 : w3.cell? ⟨w.heap.size + 1 + 1, 0, none⟩ = some (.int .i64 0) := Hy.out.cell 0
      have fy0 : w3.frozen? ⟨w.heap.size + 1 + 1, 0, none⟩ = false := Hy.out.free 0
      have y1 : w3.cell? ⟨w.heap.size + 1 + 1, 1, none⟩ = some (.int .i64 0) := Hy.out.cell 1
      have fy1 : w3.frozen? ⟨w.heap.size + 1 + 1, 1, none⟩ = false := Hy.out.free 1
      have y2 : w3.cell? ⟨w.heap.size + 1 + 1, 2, none⟩ = some (.slice none 0 0) := Hy.out.cell 2
      have fy2 : w3.frozen? ⟨w.heap.size + 1 + 1, 2, none⟩ = false := Hy.out.free 2
      replace Hb := Lib.hid (bnext Hb.out hbn); clear hbn
      go_wp2
      clear f0 f1 f2
      clear x0 fx0 x1 fx1 x2 fx2
      clear y0 fy0 y1 fy1 y2 fy2
      refine body_world (fun w9 => Blk w9 (w.heap.size) 24 [.int .i64 v, .int .i64 d, .slice a n cap] ∧ Blk w9 (w.heap.size + 1) 24 [.int .i64 0, .int .i64 0, .slice none 0 0] ∧ Blk w9 (w.heap.size + 1 + 1) 24 [.int .i64 0, .int .i64 0, .slice none 0 0] ∧ Below w.heap.size w w9) ⟨((((((Hf.out.set_other ⟨w.heap.size + 1, 0, none⟩ (by first | (dsimp only; omega) | (show _ ≠ _; omega) | (simp <;> omega)) _).set_other ⟨w.heap.size + 1, 1, none⟩ (by first | (dsimp only; omega) | (show _ ≠ _; omega) | (simp <;> omega)) _).set_other ⟨w.heap.size + 1, 2, none⟩ (by first | (dsimp only; omega) | (show _ ≠ _; omega) | (simp <;> omega)) _).set_other ⟨w.heap.size + 1 + 1, 0, none⟩ (by first | (dsimp only; omega) | (show _ ≠ _; omega) | (simp <;> omega)) _).set_other ⟨w.heap.size + 1 + 1, 1, none⟩ (by first | (dsimp only; omega) | (show _ ≠ _; omega) | (simp <;> omega)) _).set_other ⟨w.heap.size + 1 + 1, 2, none⟩ (by first | (dsimp only; omega) | (show _ ≠ _; omega) | (simp <;> omega)) _), ((((((Hx.out.set 0 _).set 1 _).set 2 _).set_other ⟨w.heap.size + 1 + 1, 0, none⟩ (by first | (dsimp only; omega) | (show _ ≠ _; omega) | (simp <;> omega)) _).set_other ⟨w.heap.size + 1 + 1, 1, none⟩ (by first | (dsimp only; omega) | (show _ ≠ _; omega) | (simp <;> omega)) _).set_other ⟨w.heap.size + 1 + 1, 2, none⟩ (by first | (dsimp only; omega) | (show _ ≠ _; omega) | (simp <;> omega)) _), ((((((Hy.out.set_other ⟨w.heap.size + 1, 0, none⟩ (by first | (dsimp only; omega) | (show _ ≠ _; omega) | (simp <;> omega)) _).set_other ⟨w.heap.size + 1, 1, none⟩ (by first | (dsimp only; omega) | (show _ ≠ _; omega) | (simp <;> omega)) _).set_other ⟨w.heap.size + 1, 2, none⟩ (by first | (dsimp only; omega) | (show _ ≠ _; omega) | (simp <;> omega)) _).set 0 _).set 1 _).set 2 _), ((((((Hb.out.setCell (p := ⟨w.heap.size + 1, 0, none⟩) (by have := Hb.out.size; first | (dsimp only; omega) | (show _ ≤ _; omega) | (simp <;> omega)) _).setCell (p := ⟨w.heap.size + 1, 1, none⟩) (by have := Hb.out.size; first | (dsimp only; omega) | (show _ ≤ _; omega) | (simp <;> omega)) _).setCell (p := ⟨w.heap.size + 1, 2, none⟩) (by have := Hb.out.size; first | (dsimp only; omega) | (show _ ≤ _; omega) | (simp <;> omega)) _).setCell (p := ⟨w.heap.size + 1 + 1, 0, none⟩) (by have := Hb.out.size; first | (dsimp only; omega) | (show _ ≤ _; omega) | (simp <;> omega)) _).setCell (p := ⟨w.heap.size + 1 + 1, 1, none⟩) (by have := Hb.out.size; first | (dsimp only; omega) | (show _ ≤ _; omega) | (simp <;> omega)) _).setCell (p := ⟨w.heap.size + 1 + 1, 2, none⟩) (by have := Hb.out.size; first | (dsimp only; omega) | (show _ ≤ _; omega) | (simp <;> omega)) _)⟩ ?_
      rintro w9 ⟨qf, qx, qy, hbn⟩
      replace Hf := Lib.hid qf; clear qf
      replace Hx := Lib.hid qx; clear qx
      replace Hy := Lib.hid qy; clear qy
      have f0 : w9.cell? ⟨w.heap.size, 0, none⟩ = some (.int .i64 v) := Hf.out.cell 0
      have f1 : w9.cell? ⟨w.heap.size, 1, none⟩ = some (.int .i64 d) := Hf.out.cell 1
      have f2 : w9.cell? ⟨w.heap.size, 2, none⟩ = some (.slice a n cap) := Hf.out.cell 2
      have x0 : w9.cell? ⟨w.heap.size + 1, 0, none⟩ = some (.int .i64 0) := Hx.out.cell 0
      have fx0 : w9.frozen? ⟨w.heap.size + 1, 0, none⟩ = false := Hx.out.free 0
      have x1 : w9.cell? ⟨w.heap.size + 1, 1, none⟩ = some (.int .i64 0) := Hx.out.cell 1
      have fx1 : w9.frozen? ⟨w.heap.size + 1, 1, none⟩ = false := Hx.out.free 1
      have x2 : w9.cell? ⟨w.heap.size + 1, 2, none⟩ = some (.slice none 0 0) := Hx.out.cell 2
      have fx2 : w9.frozen? ⟨w.heap.size + 1, 2, none⟩ = false := Hx.out.free 2
      have y0 : w9.cell? ⟨w.heap.size + 1 + 1, 0, none⟩ = some (.int .i64 0) := Hy.out.cell 0
      have fy0 : w9.frozen? ⟨w.heap.size + 1 + 1, 0, none⟩ = false := Hy.out.free 0
      have y1 : w9.cell? ⟨w.heap.size + 1 + 1, 1, none⟩ = some (.int .i64 0) := Hy.out.cell 1
      have fy1 : w9.frozen? ⟨w.heap.size + 1 + 1, 1, none⟩ = false := Hy.out.free 1
      have y2 : w9.cell? ⟨w.heap.size + 1 + 1, 2, none⟩ = some (.slice none 0 0) := Hy.out.cell 2
      have fy2 : w9.frozen? ⟨w.heap.size + 1 + 1, 2, none⟩ = false := Hy.out.free 2
      replace Hb := Lib.hid hbn; clear hbn
      refine bodyPost_ret (v := .tuple #[sf0, sf0, .int .i64 1]) (by simp [results, Tryz.results7, go_sem, x0, x1, x2, y0, y1, y2]) rfl ⟨rfl, Hb.out⟩
  · rw [decide_eq_false e1] at h1
    have H1 := Lib.hid h1
    clear h1 h2 e1 h0
    obtain ⟨W, hW_W⟩ : ∃ W, (((w.alloc (.cells #[.int .i64 v, .int .i64 d, .slice a n cap] 24)).alloc (.cells #[.int .i64 0, .int .i64 0, .slice none 0 0] 24)).alloc (.cells #[.int .i64 0, .int .i64 0, .slice none 0 0] 24)) = W := ⟨_, rfl⟩
    have Hb : Hid (Below w.heap.size w W) := by rw [← hW_W]; exact ((((Below.refl _ _).alloc (Nat.le_refl _) _).alloc (by simp <;> omega) _).alloc (by simp <;> omega) _)
    have Hf : Hid (Blk W (w.heap.size) 24 [.int .i64 v, .int .i64 d, .slice a n cap]) := by rw [← hW_W]; exact ((Blk.newAt _ _ _ (by simp)).alloc _).alloc _
    have Hx : Hid (Blk W (w.heap.size + 1) 24 [.int .i64 0, .int .i64 0, .slice none 0 0]) := by rw [← hW_W]; exact (Blk.newAt _ _ _ (by simp)).alloc _
    have Hy : Hid (Blk W (w.heap.size + 1 + 1) 24 [.int .i64 0, .int .i64 0, .slice none 0 0]) := by rw [← hW_W]; exact Blk.newAt _ _ _ (by simp)
    have f0 : W.cell? ⟨w.heap.size, 0, none⟩ = some (.int .i64 v) := Hf.out.cell 0
    have f1 : W.cell? ⟨w.heap.size, 1, none⟩ = some (.int .i64 d) := Hf.out.cell 1
    have f2 : W.cell? ⟨w.heap.size, 2, none⟩ = some (.slice a n cap) := Hf.out.cell 2
    have x0 : W.cell? ⟨w.heap.size + 1, 0, none⟩ = some (.int .i64 0) := Hx.out.cell 0
    have fx0 : W.frozen? ⟨w.heap.size + 1, 0, none⟩ = false := Hx.out.free 0
    have x1 : W.cell? ⟨w.heap.size + 1, 1, none⟩ = some (.int .i64 0) := Hx.out.cell 1
    have fx1 : W.frozen? ⟨w.heap.size + 1, 1, none⟩ = false := Hx.out.free 1
    have x2 : W.cell? ⟨w.heap.size + 1, 2, none⟩ = some (.slice none 0 0) := Hx.out.cell 2
    have fx2 : W.frozen? ⟨w.heap.size + 1, 2, none⟩ = false := Hx.out.free 2
    have y0 : W.cell? ⟨w.heap.size + 1 + 1, 0, none⟩ = some (.int .i64 0) := Hy.out.cell 0
    have fy0 : W.frozen? ⟨w.heap.size + 1 + 1, 0, none⟩ = false := Hy.out.free 0
    have y1 : W.cell? ⟨w.heap.size + 1 + 1, 1, none⟩ = some (.int .i64 0) := Hy.out.cell 1
    have fy1 : W.frozen? ⟨w.heap.size + 1 + 1, 1, none⟩ = false := Hy.out.free 1
    have y2 : W.cell? ⟨w.heap.size + 1 + 1, 2, none⟩ = some (.slice none 0 0) := Hy.out.cell 2
    have fy2 : W.frozen? ⟨w.heap.size + 1 + 1, 2, none⟩ = false := Hy.out.free 2
    go_enter Tryz.func7, Tryz.ntmps7
    go_wp2_with fail
    refine (check_any v d a n cap 0 Hc.out _).mono ?_
    rintro e w1 ⟨rfl, hbn⟩
    clear f0 f1 f2
    clear x0 fx0 x1 fx1 x2 fx2
    clear y0 fy0 y1 fy1 y2 fy2
    replace Hf := Lib.hid (Hf.out.below hbn)
    replace Hx := Lib.hid (Hx.out.below hbn)
    replace Hy := Lib.hid (Hy.out.below hbn)
    have f0 : w1.cell? ⟨w.heap.size, 0, none⟩ = some (.int .i64 v) := Hf.out.cell 0
    have f1 : w1.cell? ⟨w.heap.size, 1, none⟩ = some (.int .i64 d) := Hf.out.cell 1
    have f2 : w1.cell? ⟨w.heap.size, 2, none⟩ = some (.slice a n cap) := Hf.out.cell 2
    have x0 : w1.cell? ⟨w.heap.size + 1, 0, none⟩ = some (.int .i64 0) := Hx.out.cell 0
    have fx0 : w1.frozen? ⟨w.heap.size + 1, 0, none⟩ = false := Hx.out.free 0
    have x1 : w1.cell? ⟨w.heap.size + 1, 1, none⟩ = some (.int .i64 0) := Hx.out.cell 1
    have fx1 : w1.frozen? ⟨w.heap.size + 1, 1, none⟩ = false := Hx.out.free 1
    have x2 : w1.cell? ⟨w.heap.size + 1, 2, none⟩ = some (.slice none 0 0) := Hx.out.cell 2
    have fx2 : w1.frozen? ⟨w.heap.size + 1, 2, none⟩ = false := Hx.out.free 2
    have y0 : w1.cell? ⟨w.heap.size + 1 + 1, 0, none⟩ = some (.int .i64 0) := Hy.out.cell 0
    have fy0 : w1.frozen? ⟨w.heap.size + 1 + 1, 0, none⟩ = false := Hy.out.free 0
    have y1 : w1.cell? ⟨w.heap.size + 1 + 1, 1, none⟩ = some (.int .i64 0) := Hy.out.cell 1
    have fy1 : w1.frozen? ⟨w.heap.size + 1 + 1, 1, none⟩ = false := Hy.out.free 1
    have y2 : w1.cell? ⟨w.heap.size + 1 + 1, 2, none⟩ = some (.slice none 0 0) := Hy.out.cell 2
    have fy2 : w1.frozen? ⟨w.heap.size + 1 + 1, 2, none⟩ = false := Hy.out.free 2
    replace Hb := Lib.hid (bnext Hb.out hbn); clear hbn
    go_wp2_with fail
    refine (H1.out _).mono ?_
    rintro e w2 ⟨rfl, hbn⟩
    clear f0 f1 f2
    clear x0 fx0 x1 fx1 x2 fx2
    clear y0 fy0 y1 fy1 y2 fy2
    replace Hf := Lib.hid (Hf.out.below hbn)
    replace Hx := Lib.hid (Hx.out.below hbn)
    replace Hy := Lib.hid (Hy.out.below hbn)
    have f0 : w2.cell? ⟨w.heap.size, 0, none⟩ = some (.int .i64 v) := Hf.out.cell 0
    have f1 : w2.cell? ⟨w.heap.size, 1, none⟩ = some (.int .i64 d) := Hf.out.cell 1
    have f2 : w2.cell? ⟨w.heap.size, 2, none⟩ = some (.slice a n cap) := Hf.out.cell 2
    have x0 : w2.cell? ⟨w.heap.size + 1, 0, none⟩ = some (.int .i64 0) := Hx.out.cell 0
    have fx0 : w2.frozen? ⟨w.heap.size + 1, 0, none⟩ = false := Hx.out.free 0
    have x1 : w2.cell? ⟨w.heap.size + 1, 1, none⟩ = some (.int .i64 0) := Hx.out.cell 1
    have fx1 : w2.frozen? ⟨w.heap.size + 1, 1, none⟩ = false := Hx.out.free 1
    have x2 : w2.cell? ⟨w.heap.size + 1, 2, none⟩ = some (.slice none 0 0) := Hx.out.cell 2
    have fx2 : w2.frozen? ⟨w.heap.size + 1, 2, none⟩ = false := Hx.out.free 2
    have y0 : w2.cell? ⟨w.heap.size + 1 + 1, 0, none⟩ = some (.int .i64 0) := Hy.out.cell 0
    have fy0 : w2.frozen? ⟨w.heap.size + 1 + 1, 0, none⟩ = false := Hy.out.free 0
    have y1 : w2.cell? ⟨w.heap.size + 1 + 1, 1, none⟩ = some (.int .i64 0) := Hy.out.cell 1
    have fy1 : w2.frozen? ⟨w.heap.size + 1 + 1, 1, none⟩ = false := Hy.out.free 1
    have y2 : w2.cell? ⟨w.heap.size + 1 + 1, 2, none⟩ = some (.slice none 0 0) := Hy.out.cell 2
    have fy2 : w2.frozen? ⟨w.heap.size + 1 + 1, 2, none⟩ = false := Hy.out.free 2
    replace Hb := Lib.hid (bnext Hb.out hbn); clear hbn
    go_wp2
    clear f0 f1 f2
    clear x0 fx0 x1 fx1 x2 fx2
    clear y0 fy0 y1 fy1 y2 fy2
    refine body_world (fun w9 => Blk w9 (w.heap.size) 24 [.int .i64 v, .int .i64 d, .slice a n cap] ∧ Blk w9 (w.heap.size + 1) 24 [.int .i64 0, .int .i64 0, .slice none 0 0] ∧ Blk w9 (w.heap.size + 1 + 1) 24 [.int .i64 0, .int .i64 0, .slice none 0 0] ∧ Below w.heap.size w w9) ⟨((((((Hf.out.set_other ⟨w.heap.size + 1, 0, none⟩ (by first | (dsimp only; omega) | (show _ ≠ _; omega) | (simp <;> omega)) _).set_other ⟨w.heap.size + 1, 1, none⟩ (by first | (dsimp only; omega) | (show _ ≠ _; omega) | (simp <;> omega)) _).set_other ⟨w.heap.size + 1, 2, none⟩ (by first | (dsimp only; omega) | (show _ ≠ _; omega) | (simp <;> omega)) _).set_other ⟨w.heap.size + 1 + 1, 0, none⟩ (by first | (dsimp only; omega) | (show _ ≠ _; omega) | (simp <;> omega)) _).set_other ⟨w.heap.size + 1 + 1, 1, none⟩ (by first | (dsimp only; omega) | (show _ ≠ _; omega) | (simp <;> omega)) _).set_other ⟨w.heap.size + 1 + 1, 2, none⟩ (by first | (dsimp only; omega) | (show _ ≠ _; omega) | (simp <;> omega)) _), ((((((Hx.out.set 0 _).set 1 _).set 2 _).set_other ⟨w.heap.size + 1 + 1, 0, none⟩ (by first | (dsimp only; omega) | (show _ ≠ _; omega) | (simp <;> omega)) _).set_other ⟨w.heap.size + 1 + 1, 1, none⟩ (by first | (dsimp only; omega) | (show _ ≠ _; omega) | (simp <;> omega)) _).set_other ⟨w.heap.size + 1 + 1, 2, none⟩ (by first | (dsimp only; omega) | (show _ ≠ _; omega) | (simp <;> omega)) _), ((((((Hy.out.set_other ⟨w.heap.size + 1, 0, none⟩ (by first | (dsimp only; omega) | (show _ ≠ _; omega) | (simp <;> omega)) _).set_other ⟨w.heap.size + 1, 1, none⟩ (by first | (dsimp only; omega) | (show _ ≠ _; omega) | (simp <;> omega)) _).set_other ⟨w.heap.size + 1, 2, none⟩ (by first | (dsimp only; omega) | (show _ ≠ _; omega) | (simp <;> omega)) _).set 0 _).set 1 _).set 2 _), ((((((Hb.out.setCell (p := ⟨w.heap.size + 1, 0, none⟩) (by have := Hb.out.size; first | (dsimp only; omega) | (show _ ≤ _; omega) | (simp <;> omega)) _).setCell (p := ⟨w.heap.size + 1, 1, none⟩) (by have := Hb.out.size; first | (dsimp only; omega) | (show _ ≤ _; omega) | (simp <;> omega)) _).setCell (p := ⟨w.heap.size + 1, 2, none⟩) (by have := Hb.out.size; first | (dsimp only; omega) | (show _ ≤ _; omega) | (simp <;> omega)) _).setCell (p := ⟨w.heap.size + 1 + 1, 0, none⟩) (by have := Hb.out.size; first | (dsimp only; omega) | (show _ ≤ _; omega) | (simp <;> omega)) _).setCell (p := ⟨w.heap.size + 1 + 1, 1, none⟩) (by have := Hb.out.size; first | (dsimp only; omega) | (show _ ≤ _; omega) | (simp <;> omega)) _).setCell (p := ⟨w.heap.size + 1 + 1, 2, none⟩) (by have := Hb.out.size; first | (dsimp only; omega) | (show _ ≤ _; omega) | (simp <;> omega)) _)⟩ ?_
    rintro w9 ⟨qf, qx, qy, hbn⟩
    replace Hf := Lib.hid qf; clear qf
    replace Hx := Lib.hid qx; clear qx
    replace Hy := Lib.hid qy; clear qy
    have f0 : w9.cell? ⟨w.heap.size, 0, none⟩ = some (.int .i64 v) := Hf.out.cell 0
    have f1 : w9.cell? ⟨w.heap.size, 1, none⟩ = some (.int .i64 d) := Hf.out.cell 1
    have f2 : w9.cell? ⟨w.heap.size, 2, none⟩ = some (.slice a n cap) := Hf.out.cell 2
    have x0 : w9.cell? ⟨w.heap.size + 1, 0, none⟩ = some (.int .i64 0) := Hx.out.cell 0
    have fx0 : w9.frozen? ⟨w.heap.size + 1, 0, none⟩ = false := Hx.out.free 0
    have x1 : w9.cell? ⟨w.heap.size + 1, 1, none⟩ = some (.int .i64 0) := Hx.out.cell 1
    have fx1 : w9.frozen? ⟨w.heap.size + 1, 1, none⟩ = false := Hx.out.free 1
    have x2 : w9.cell? ⟨w.heap.size + 1, 2, none⟩ = some (.slice none 0 0) := Hx.out.cell 2
    have fx2 : w9.frozen? ⟨w.heap.size + 1, 2, none⟩ = false := Hx.out.free 2
    have y0 : w9.cell? ⟨w.heap.size + 1 + 1, 0, none⟩ = some (.int .i64 0) := Hy.out.cell 0
    have fy0 : w9.frozen? ⟨w.heap.size + 1 + 1, 0, none⟩ = false := Hy.out.free 0
    have y1 : w9.cell? ⟨w.heap.size + 1 + 1, 1, none⟩ = some (.int .i64 0) := Hy.out.cell 1
    have fy1 : w9.frozen? ⟨w.heap.size + 1 + 1, 1, none⟩ = false := Hy.out.free 1
    have y2 : w9.cell? ⟨w.heap.size + 1 + 1, 2, none⟩ = some (.slice none 0 0) := Hy.out.cell 2
    have fy2 : w9.frozen? ⟨w.heap.size + 1 + 1, 2, none⟩ = false := Hy.out.free 2
    replace Hb := Lib.hid hbn; clear hbn
    refine bodyPost_ret (v := .tuple #[sf0, sf0, .int .i64 1]) (by simp [results, Tryz.results7, go_sem, x0, x1, x2, y0, y1, y2]) rfl ⟨rfl, Hb.out⟩

/-- What half makes of a form's numbers. -/
def halfL (V D i j : Nat) (cs : List Dyadic) : List Dyadic := colL (rowsL (V + 1) D) (halfP i j (rowsL (V + 1) D) cs)

set_option maxHeartbeats 4000000 in
theorem split_ok (V D : Nat) (a : Option Addr) (cap : Nat) (raws : List Raw) (i j B : Nat) (w : World) (hc : chk V D raws.length = 0) (hi : i ≤ V) (hj : j ≤ V) (hij : i ≠ j)
    (hfit : ∀ x ∈ raws, Fit B x) (hBB : B ≤ 1000000) (ha : At w a (raws.flatMap numC)) (hT : Tab w) :
    Calls Tryz.prog 7 #[.agg #[.int .i64 (V : Int), .int .i64 (D : Int), .slice a raws.length cap], .int .i64 (i : Int), .int .i64 (j : Int)] w fun e w' => ∃ r s,
      e = .returned (.tuple #[.agg #[.int .i64 (V : Int), .int .i64 (D : Int), .slice (some ⟨r, 0, none⟩) raws.length raws.length], .agg #[.int .i64 (V : Int), .int .i64 (D : Int), .slice (some ⟨s, 0, none⟩) raws.length raws.length], .int .i64 0]) ∧
        Blk w' r 36 (dC (halfL V D i j (raws.map dval))) ∧ Blk w' s 36 (dC (halfL V D j i (raws.map dval))) ∧ w.heap.size ≤ r ∧ w.heap.size ≤ s ∧ Below w.heap.size w w' := by
  obtain ⟨c1, c2, c3, c4, c5, c6⟩ := chk_ok hc
  simp only [Int.toNat_natCast] at c5
  have Hc := Lib.hid hc
  have Hh1 := Lib.hid (fun W hW hT => half_any V D a cap raws i j B W (by omega) (by omega) (by omega) (by omega) c5 hi hj hij hfit hBB (ha.below hW) hT)
  have Hh2 := Lib.hid (fun W hW hT => half_any V D a cap raws j i B W (by omega) (by omega) (by omega) (by omega) c5 hj hi (fun e => hij e.symm) hfit hBB (ha.below hW) hT)
  have h1 := has_any V D a raws.length cap i
  have h2 := has_any V D a raws.length cap j
  rw [decide_eq_true (by omega)] at h1 h2
  have H1 := Lib.hid h1; have H2 := Lib.hid h2; have HT := Lib.hid hT
  have h3 : ((i : Int) == (j : Int)) = false := by simp; omega
  clear hc c5 hfit ha h1 h2 hT
  obtain ⟨W, hW_W⟩ : ∃ W, (((w.alloc (.cells #[.int .i64 (V : Int), .int .i64 (D : Int), .slice a raws.length cap] 24)).alloc (.cells #[.int .i64 0, .int .i64 0, .slice none 0 0] 24)).alloc (.cells #[.int .i64 0, .int .i64 0, .slice none 0 0] 24)) = W := ⟨_, rfl⟩
  have Hb : Hid (Below w.heap.size w W) := by rw [← hW_W]; exact ((((Below.refl _ _).alloc (Nat.le_refl _) _).alloc (by simp <;> omega) _).alloc (by simp <;> omega) _)
  have Hf : Hid (Blk W (w.heap.size) 24 [.int .i64 (V : Int), .int .i64 (D : Int), .slice a raws.length cap]) := by rw [← hW_W]; exact ((Blk.newAt _ _ _ (by simp)).alloc _).alloc _
  have Hx : Hid (Blk W (w.heap.size + 1) 24 [.int .i64 0, .int .i64 0, .slice none 0 0]) := by rw [← hW_W]; exact (Blk.newAt _ _ _ (by simp)).alloc _
  have Hy : Hid (Blk W (w.heap.size + 1 + 1) 24 [.int .i64 0, .int .i64 0, .slice none 0 0]) := by rw [← hW_W]; exact Blk.newAt _ _ _ (by simp)
  have f0 : W.cell? ⟨w.heap.size, 0, none⟩ = some (.int .i64 (V : Int)) := Hf.out.cell 0
  have f1 : W.cell? ⟨w.heap.size, 1, none⟩ = some (.int .i64 (D : Int)) := Hf.out.cell 1
  have f2 : W.cell? ⟨w.heap.size, 2, none⟩ = some (.slice a raws.length cap) := Hf.out.cell 2
  have x0 : W.cell? ⟨w.heap.size + 1, 0, none⟩ = some (.int .i64 0) := Hx.out.cell 0
  have fx0 : W.frozen? ⟨w.heap.size + 1, 0, none⟩ = false := Hx.out.free 0
  have x1 : W.cell? ⟨w.heap.size + 1, 1, none⟩ = some (.int .i64 0) := Hx.out.cell 1
  have fx1 : W.frozen? ⟨w.heap.size + 1, 1, none⟩ = false := Hx.out.free 1
  have x2 : W.cell? ⟨w.heap.size + 1, 2, none⟩ = some (.slice none 0 0) := Hx.out.cell 2
  have fx2 : W.frozen? ⟨w.heap.size + 1, 2, none⟩ = false := Hx.out.free 2
  have y0 : W.cell? ⟨w.heap.size + 1 + 1, 0, none⟩ = some (.int .i64 0) := Hy.out.cell 0
  have fy0 : W.frozen? ⟨w.heap.size + 1 + 1, 0, none⟩ = false := Hy.out.free 0
  have y1 : W.cell? ⟨w.heap.size + 1 + 1, 1, none⟩ = some (.int .i64 0) := Hy.out.cell 1
  have fy1 : W.frozen? ⟨w.heap.size + 1 + 1, 1, none⟩ = false := Hy.out.free 1
  have y2 : W.cell? ⟨w.heap.size + 1 + 1, 2, none⟩ = some (.slice none 0 0) := Hy.out.cell 2
  have fy2 : W.frozen? ⟨w.heap.size + 1 + 1, 2, none⟩ = false := Hy.out.free 2
  go_enter Tryz.func7, Tryz.ntmps7
  go_wp2_with fail
  refine (check_any V D a raws.length cap 0 Hc.out _).mono ?_
  rintro e w1 ⟨rfl, hbn⟩
  clear f0 f1 f2
  clear x0 fx0 x1 fx1 x2 fx2
  clear y0 fy0 y1 fy1 y2 fy2
  replace Hf := Lib.hid (Hf.out.below hbn)
  replace Hx := Lib.hid (Hx.out.below hbn)
  replace Hy := Lib.hid (Hy.out.below hbn)
  have f0 : w1.cell? ⟨w.heap.size, 0, none⟩ = some (.int .i64 (V : Int)) := Hf.out.cell 0
  have f1 : w1.cell? ⟨w.heap.size, 1, none⟩ = some (.int .i64 (D : Int)) := Hf.out.cell 1
  have f2 : w1.cell? ⟨w.heap.size, 2, none⟩ = some (.slice a raws.length cap) := Hf.out.cell 2
  have x0 : w1.cell? ⟨w.heap.size + 1, 0, none⟩ = some (.int .i64 0) := Hx.out.cell 0
  have fx0 : w1.frozen? ⟨w.heap.size + 1, 0, none⟩ = false := Hx.out.free 0
  have x1 : w1.cell? ⟨w.heap.size + 1, 1, none⟩ = some (.int .i64 0) := Hx.out.cell 1
  have fx1 : w1.frozen? ⟨w.heap.size + 1, 1, none⟩ = false := Hx.out.free 1
  have x2 : w1.cell? ⟨w.heap.size + 1, 2, none⟩ = some (.slice none 0 0) := Hx.out.cell 2
  have fx2 : w1.frozen? ⟨w.heap.size + 1, 2, none⟩ = false := Hx.out.free 2
  have y0 : w1.cell? ⟨w.heap.size + 1 + 1, 0, none⟩ = some (.int .i64 0) := Hy.out.cell 0
  have fy0 : w1.frozen? ⟨w.heap.size + 1 + 1, 0, none⟩ = false := Hy.out.free 0
  have y1 : w1.cell? ⟨w.heap.size + 1 + 1, 1, none⟩ = some (.int .i64 0) := Hy.out.cell 1
  have fy1 : w1.frozen? ⟨w.heap.size + 1 + 1, 1, none⟩ = false := Hy.out.free 1
  have y2 : w1.cell? ⟨w.heap.size + 1 + 1, 2, none⟩ = some (.slice none 0 0) := Hy.out.cell 2
  have fy2 : w1.frozen? ⟨w.heap.size + 1 + 1, 2, none⟩ = false := Hy.out.free 2
  replace Hb := Lib.hid (bnext Hb.out hbn); clear hbn
  go_wp2_with fail
  refine (H1.out _).mono ?_
  rintro e w2 ⟨rfl, hbn⟩
  clear f0 f1 f2
  clear x0 fx0 x1 fx1 x2 fx2
  clear y0 fy0 y1 fy1 y2 fy2
  replace Hf := Lib.hid (Hf.out.below hbn)
  replace Hx := Lib.hid (Hx.out.below hbn)
  replace Hy := Lib.hid (Hy.out.below hbn)
  have f0 : w2.cell? ⟨w.heap.size, 0, none⟩ = some (.int .i64 (V : Int)) := Hf.out.cell 0
  have f1 : w2.cell? ⟨w.heap.size, 1, none⟩ = some (.int .i64 (D : Int)) := Hf.out.cell 1
  have f2 : w2.cell? ⟨w.heap.size, 2, none⟩ = some (.slice a raws.length cap) := Hf.out.cell 2
  have x0 : w2.cell? ⟨w.heap.size + 1, 0, none⟩ = some (.int .i64 0) := Hx.out.cell 0
  have fx0 : w2.frozen? ⟨w.heap.size + 1, 0, none⟩ = false := Hx.out.free 0
  have x1 : w2.cell? ⟨w.heap.size + 1, 1, none⟩ = some (.int .i64 0) := Hx.out.cell 1
  have fx1 : w2.frozen? ⟨w.heap.size + 1, 1, none⟩ = false := Hx.out.free 1
  have x2 : w2.cell? ⟨w.heap.size + 1, 2, none⟩ = some (.slice none 0 0) := Hx.out.cell 2
  have fx2 : w2.frozen? ⟨w.heap.size + 1, 2, none⟩ = false := Hx.out.free 2
  have y0 : w2.cell? ⟨w.heap.size + 1 + 1, 0, none⟩ = some (.int .i64 0) := Hy.out.cell 0
  have fy0 : w2.frozen? ⟨w.heap.size + 1 + 1, 0, none⟩ = false := Hy.out.free 0
  have y1 : w2.cell? ⟨w.heap.size + 1 + 1, 1, none⟩ = some (.int .i64 0) := Hy.out.cell 1
  have fy1 : w2.frozen? ⟨w.heap.size + 1 + 1, 1, none⟩ = false := Hy.out.free 1
  have y2 : w2.cell? ⟨w.heap.size + 1 + 1, 2, none⟩ = some (.slice none 0 0) := Hy.out.cell 2
  have fy2 : w2.frozen? ⟨w.heap.size + 1 + 1, 2, none⟩ = false := Hy.out.free 2
  replace Hb := Lib.hid (bnext Hb.out hbn); clear hbn
  go_wp2_with fail
  refine (H2.out _).mono ?_
  rintro e w3 ⟨rfl, hbn⟩
  clear f0 f1 f2
  clear x0 fx0 x1 fx1 x2 fx2
  clear y0 fy0 y1 fy1 y2 fy2
  replace Hf := Lib.hid (Hf.out.below hbn)
  replace Hx := Lib.hid (Hx.out.below hbn)
  replace Hy := Lib.hid (Hy.out.below hbn)
  have f0 : w3.cell? ⟨w.heap.size, 0, none⟩ = some (.int .i64 (V : Int)) := Hf.out.cell 0
  have f1 : w3.cell? ⟨w.heap.size, 1, none⟩ = some (.int .i64 (D : Int)) := Hf.out.cell 1
  have f2 : w3.cell? ⟨w.heap.size, 2, none⟩ = some (.slice a raws.length cap) := Hf.out.cell 2
  have x0 : w3.cell? ⟨w.heap.size + 1, 0, none⟩ = some (.int .i64 0) := Hx.out.cell 0
  have fx0 : w3.frozen? ⟨w.heap.size + 1, 0, none⟩ = false := Hx.out.free 0
  have x1 : w3.cell? ⟨w.heap.size + 1, 1, none⟩ = some (.int .i64 0) := Hx.out.cell 1
  have fx1 : w3.frozen? ⟨w.heap.size + 1, 1, none⟩ = false := Hx.out.free 1
  have x2 : w3.cell? ⟨w.heap.size + 1, 2, none⟩ = some (.slice none 0 0) := Hx.out.cell 2
  have fx2 : w3.frozen? ⟨w.heap.size + 1, 2, none⟩ = false := Hx.out.free 2
  have y0 : w3.cell? ⟨w.heap.size + 1 + 1, 0, none⟩ = some (.int .i64 0) := Hy.out.cell 0
  have fy0 : w3.frozen? ⟨w.heap.size + 1 + 1, 0, none⟩ = false := Hy.out.free 0
  have y1 : w3.cell? ⟨w.heap.size + 1 + 1, 1, none⟩ = some (.int .i64 0) := Hy.out.cell 1
  have fy1 : w3.frozen? ⟨w.heap.size + 1 + 1, 1, none⟩ = false := Hy.out.free 1
  have y2 : w3.cell? ⟨w.heap.size + 1 + 1, 2, none⟩ = some (.slice none 0 0) := Hy.out.cell 2
  have fy2 : w3.frozen? ⟨w.heap.size + 1 + 1, 2, none⟩ = false := Hy.out.free 2
  replace Hb := Lib.hid (bnext Hb.out hbn); clear hbn
  go_wp2_with fail
  have lf := Hf.out.lt; have lx := Hx.out.lt; have ly := Hy.out.lt
  have hdr : w3.drew.heap.size = w3.heap.size := rfl
  refine wp_region_plan (fun w' => w'.cell? ⟨w.heap.size, 0, none⟩ = some (.int .i64 (V : Int)) ∧ w'.cell? ⟨w.heap.size, 1, none⟩ = some (.int .i64 (D : Int)) ∧ w'.cell? ⟨w.heap.size, 2, none⟩ = some (.slice a raws.length cap)) (fun i => Nat.blt i 8) [(0, true), (1, true), (2, true), (4, true), (5, true), (6, true), (3, false), (7, false), (8, false), (9, false), (10, false)] (by kernel_rfl) (by kernel_rfl) rfl (by kernel_rfl) (fun o c a v w => by cases o.dst <;> exact id) ⟨f0, f1, f2⟩ ?_
  refine planT rfl rfl (v := ?_) (fun w' hw' => ?_) ?_; rotate_left; focus (obtain ⟨q0, q1, q2⟩ := hw'; go_simp; try with_reducible rfl)
  try simp only [Act.put, List.setIfInBounds_toArray, List.set_cons_zero, List.set_cons_succ]
  refine planT rfl rfl (v := ?_) (fun w' hw' => ?_) ?_; rotate_left; focus (go_simp; try with_reducible rfl)
  try simp only [Act.put, List.setIfInBounds_toArray, List.set_cons_zero, List.set_cons_succ]
  refine planT rfl rfl (v := ?_) (fun w' hw' => ?_) ?_; rotate_left; focus (go_simp; try with_reducible rfl)
  try simp only [Act.put, List.setIfInBounds_toArray, List.set_cons_zero, List.set_cons_succ]
  refine planT rfl rfl (v := ?_) (fun w' hw' => ?_) ?_; rotate_left; focus (obtain ⟨q0, q1, q2⟩ := hw'; go_simp; try with_reducible rfl)
  try simp only [Act.put, List.setIfInBounds_toArray, List.set_cons_zero, List.set_cons_succ]
  refine planT rfl rfl (v := ?_) (fun w' hw' => ?_) ?_; rotate_left; focus (go_simp; try with_reducible rfl)
  try simp only [Act.put, List.setIfInBounds_toArray, List.set_cons_zero, List.set_cons_succ]
  refine planT rfl rfl (v := ?_) (fun w' hw' => ?_) ?_; rotate_left; focus (go_simp; try with_reducible rfl)
  try simp only [Act.put, List.setIfInBounds_toArray, List.set_cons_zero, List.set_cons_succ]
  refine planF rfl rfl (fun K hK => ?_)
  go_simp
  with_reducible refine (Hh1.out _ (by first | exact Hb.out | exact Below.drew Hb.out) (by first | exact (HT.out.below Hb.out) | exact Tab.drew (HT.out.below Hb.out) | exact Tab.alloc (HT.out.below Hb.out) _ | exact Tab.drew (Tab.alloc (HT.out.below Hb.out) _) | exact Tab.alloc (Tab.drew (HT.out.below Hb.out)) _)).mono ?_
  rintro e w4 ⟨r, rfl, hr, lr, hq⟩
  have hbn : Below w3.heap.size w3 w4 := (by first | exact hq | exact bundrew hq); clear hq
  clear f0 f1 f2
  clear x0 fx0 x1 fx1 x2 fx2
  clear y0 fy0 y1 fy1 y2 fy2
  replace Hf := Lib.hid (Hf.out.below hbn)
  replace Hx := Lib.hid (Hx.out.below hbn)
  replace Hy := Lib.hid (Hy.out.below hbn)
  have f0 : w4.cell? ⟨w.heap.size, 0, none⟩ = some (.int .i64 (V : Int)) := Hf.out.cell 0
  have f1 : w4.cell? ⟨w.heap.size, 1, none⟩ = some (.int .i64 (D : Int)) := Hf.out.cell 1
  have f2 : w4.cell? ⟨w.heap.size, 2, none⟩ = some (.slice a raws.length cap) := Hf.out.cell 2
  have x0 : w4.cell? ⟨w.heap.size + 1, 0, none⟩ = some (.int .i64 0) := Hx.out.cell 0
  have fx0 : w4.frozen? ⟨w.heap.size + 1, 0, none⟩ = false := Hx.out.free 0
  have x1 : w4.cell? ⟨w.heap.size + 1, 1, none⟩ = some (.int .i64 0) := Hx.out.cell 1
  have fx1 : w4.frozen? ⟨w.heap.size + 1, 1, none⟩ = false := Hx.out.free 1
  have x2 : w4.cell? ⟨w.heap.size + 1, 2, none⟩ = some (.slice none 0 0) := Hx.out.cell 2
  have fx2 : w4.frozen? ⟨w.heap.size + 1, 2, none⟩ = false := Hx.out.free 2
  have y0 : w4.cell? ⟨w.heap.size + 1 + 1, 0, none⟩ = some (.int .i64 0) := Hy.out.cell 0
  have fy0 : w4.frozen? ⟨w.heap.size + 1 + 1, 0, none⟩ = false := Hy.out.free 0
  have y1 : w4.cell? ⟨w.heap.size + 1 + 1, 1, none⟩ = some (.int .i64 0) := Hy.out.cell 1
  have fy1 : w4.frozen? ⟨w.heap.size + 1 + 1, 1, none⟩ = false := Hy.out.free 1
  have y2 : w4.cell? ⟨w.heap.size + 1 + 1, 2, none⟩ = some (.slice none 0 0) := Hy.out.cell 2
  have fy2 : w4.frozen? ⟨w.heap.size + 1 + 1, 2, none⟩ = false := Hy.out.free 2
  replace Hb := Lib.hid (bnext Hb.out hbn); clear hbn
  have Hp := Lib.hid hr; clear hr
  have lt_p_w4 := Hp.out.lt
  refine hK _ _ (fun _ => ⟨f0, f1, f2⟩) ?_; clear hK K
  try simp only [Act.put, List.setIfInBounds_toArray, List.set_cons_zero, List.set_cons_succ]
  refine planF rfl rfl (fun K hK => ?_)
  go_simp
  with_reducible refine (Hh2.out _ (by first | exact Hb.out | exact Below.drew Hb.out) (by first | exact (HT.out.below Hb.out) | exact Tab.drew (HT.out.below Hb.out) | exact Tab.alloc (HT.out.below Hb.out) _ | exact Tab.drew (Tab.alloc (HT.out.below Hb.out) _) | exact Tab.alloc (Tab.drew (HT.out.below Hb.out)) _)).mono ?_
  rintro e w5 ⟨s, rfl, hs, ls, hq⟩
  have hbn : Below w4.heap.size w4 w5 := (by first | exact hq | exact bundrew hq); clear hq
  clear f0 f1 f2
  clear x0 fx0 x1 fx1 x2 fx2
  clear y0 fy0 y1 fy1 y2 fy2
  replace Hf := Lib.hid (Hf.out.below hbn)
  replace Hx := Lib.hid (Hx.out.below hbn)
  replace Hy := Lib.hid (Hy.out.below hbn)
  replace Hp := Lib.hid (Hp.out.below hbn)
  have f0 : w5.cell? ⟨w.heap.size, 0, none⟩ = some (.int .i64 (V : Int)) := Hf.out.cell 0
  have f1 : w5.cell? ⟨w.heap.size, 1, none⟩ = some (.int .i64 (D : Int)) := Hf.out.cell 1
  have f2 : w5.cell? ⟨w.heap.size, 2, none⟩ = some (.slice a raws.length cap) := Hf.out.cell 2
  have x0 : w5.cell? ⟨w.heap.size + 1, 0, none⟩ = some (.int .i64 0) := Hx.out.cell 0
  have fx0 : w5.frozen? ⟨w.heap.size + 1, 0, none⟩ = false := Hx.out.free 0
  have x1 : w5.cell? ⟨w.heap.size + 1, 1, none⟩ = some (.int .i64 0) := Hx.out.cell 1
  have fx1 : w5.frozen? ⟨w.heap.size + 1, 1, none⟩ = false := Hx.out.free 1
  have x2 : w5.cell? ⟨w.heap.size + 1, 2, none⟩ = some (.slice none 0 0) := Hx.out.cell 2
  have fx2 : w5.frozen? ⟨w.heap.size + 1, 2, none⟩ = false := Hx.out.free 2
  have y0 : w5.cell? ⟨w.heap.size + 1 + 1, 0, none⟩ = some (.int .i64 0) := Hy.out.cell 0
  have fy0 : w5.frozen? ⟨w.heap.size + 1 + 1, 0, none⟩ = false := Hy.out.free 0
  have y1 : w5.cell? ⟨w.heap.size + 1 + 1, 1, none⟩ = some (.int .i64 0) := Hy.out.cell 1
  have fy1 : w5.frozen? ⟨w.heap.size + 1 + 1, 1, none⟩ = false := Hy.out.free 1
  have y2 : w5.cell? ⟨w.heap.size + 1 + 1, 2, none⟩ = some (.slice none 0 0) := Hy.out.cell 2
  have fy2 : w5.frozen? ⟨w.heap.size + 1 + 1, 2, none⟩ = false := Hy.out.free 2
  replace Hb := Lib.hid (bnext Hb.out hbn); clear hbn
  have Hq := Lib.hid hs; clear hs
  have lt_q_w5 := Hq.out.lt
  refine hK _ _ (fun _ => ⟨f0, f1, f2⟩) ?_; clear hK K
  try simp only [Act.put, List.setIfInBounds_toArray, List.set_cons_zero, List.set_cons_succ]
  refine planF rfl rfl (fun K hK => ?_)
  go_simp
  refine hK _ _ (fun h => absurd h (by decide)) ?_; clear hK K
  try simp only [Act.put, List.setIfInBounds_toArray, List.set_cons_zero, List.set_cons_succ]
  clear f0 f1 f2
  clear x0 fx0 x1 fx1 x2 fx2
  clear y0 fy0 y1 fy1 y2 fy2
  refine plan_world (fun w6 => Blk w6 (w.heap.size) 24 [.int .i64 (V : Int), .int .i64 (D : Int), .slice a raws.length cap] ∧ Blk w6 (w.heap.size + 1) 24 [.int .i64 (V : Int), .int .i64 (D : Int), .slice (some ⟨r, 0, none⟩) raws.length raws.length] ∧ Blk w6 (w.heap.size + 1 + 1) 24 [.int .i64 0, .int .i64 0, .slice none 0 0] ∧ Blk w6 (r) 36 (dC (colL (rowsL (V + 1) D) (halfP i j (rowsL (V + 1) D) (raws.map dval)))) ∧ Blk w6 (s) 36 (dC (colL (rowsL (V + 1) D) (halfP j i (rowsL (V + 1) D) (raws.map dval)))) ∧ Below w.heap.size w w6) (by first | exact ⟨(((Hf.out.set_other ⟨w.heap.size + 1, 0, none⟩ (by first | (dsimp only; omega) | (simp <;> omega)) _).set_other ⟨w.heap.size + 1, 1, none⟩ (by first | (dsimp only; omega) | (simp <;> omega)) _).set_other ⟨w.heap.size + 1, 2, none⟩ (by first | (dsimp only; omega) | (simp <;> omega)) _), (((Hx.out.set 0 _).set 1 _).set 2 _), (((Hy.out.set_other ⟨w.heap.size + 1, 0, none⟩ (by first | (dsimp only; omega) | (simp <;> omega)) _).set_other ⟨w.heap.size + 1, 1, none⟩ (by first | (dsimp only; omega) | (simp <;> omega)) _).set_other ⟨w.heap.size + 1, 2, none⟩ (by first | (dsimp only; omega) | (simp <;> omega)) _), (((Hp.out.set_other ⟨w.heap.size + 1, 0, none⟩ (by first | (dsimp only; omega) | (simp <;> omega)) _).set_other ⟨w.heap.size + 1, 1, none⟩ (by first | (dsimp only; omega) | (simp <;> omega)) _).set_other ⟨w.heap.size + 1, 2, none⟩ (by first | (dsimp only; omega) | (simp <;> omega)) _), (((Hq.out.set_other ⟨w.heap.size + 1, 0, none⟩ (by first | (dsimp only; omega) | (simp <;> omega)) _).set_other ⟨w.heap.size + 1, 1, none⟩ (by first | (dsimp only; omega) | (simp <;> omega)) _).set_other ⟨w.heap.size + 1, 2, none⟩ (by first | (dsimp only; omega) | (simp <;> omega)) _), (((Hb.out.setCell (p := ⟨w.heap.size + 1, 0, none⟩) (by have := Hb.out.size; first | (dsimp only; omega) | (simp <;> omega)) _).setCell (p := ⟨w.heap.size + 1, 1, none⟩) (by have := Hb.out.size; first | (dsimp only; omega) | (simp <;> omega)) _).setCell (p := ⟨w.heap.size + 1, 2, none⟩) (by have := Hb.out.size; first | (dsimp only; omega) | (simp <;> omega)) _)⟩ | exact ⟨(((Hf.out.set_other ⟨w.heap.size + 1, 0, none⟩ (by first | (dsimp only; omega) | (simp <;> omega)) _).set_other ⟨w.heap.size + 1, 1, none⟩ (by first | (dsimp only; omega) | (simp <;> omega)) _).set_other ⟨w.heap.size + 1, 2, none⟩ (by first | (dsimp only; omega) | (simp <;> omega)) _), (((Hx.out.set 0 _).set 1 _).set 2 _), (((Hy.out.set_other ⟨w.heap.size + 1, 0, none⟩ (by first | (dsimp only; omega) | (simp <;> omega)) _).set_other ⟨w.heap.size + 1, 1, none⟩ (by first | (dsimp only; omega) | (simp <;> omega)) _).set_other ⟨w.heap.size + 1, 2, none⟩ (by first | (dsimp only; omega) | (simp <;> omega)) _), (((Hp.out.set_other ⟨w.heap.size + 1, 0, none⟩ (by first | (dsimp only; omega) | (simp <;> omega)) _).set_other ⟨w.heap.size + 1, 1, none⟩ (by first | (dsimp only; omega) | (simp <;> omega)) _).set_other ⟨w.heap.size + 1, 2, none⟩ (by first | (dsimp only; omega) | (simp <;> omega)) _), (((Hq.out.set_other ⟨w.heap.size + 1, 0, none⟩ (by first | (dsimp only; omega) | (simp <;> omega)) _).set_other ⟨w.heap.size + 1, 1, none⟩ (by first | (dsimp only; omega) | (simp <;> omega)) _).set_other ⟨w.heap.size + 1, 2, none⟩ (by first | (dsimp only; omega) | (simp <;> omega)) _), Below.drew (((Hb.out.setCell (p := ⟨w.heap.size + 1, 0, none⟩) (by have := Hb.out.size; first | (dsimp only; omega) | (simp <;> omega)) _).setCell (p := ⟨w.heap.size + 1, 1, none⟩) (by have := Hb.out.size; first | (dsimp only; omega) | (simp <;> omega)) _).setCell (p := ⟨w.heap.size + 1, 2, none⟩) (by have := Hb.out.size; first | (dsimp only; omega) | (simp <;> omega)) _)⟩) ?_
  rintro w6 ⟨qf, qx, qy, qp, qq, hbn⟩
  replace Hf := Lib.hid qf; clear qf
  replace Hx := Lib.hid qx; clear qx
  replace Hy := Lib.hid qy; clear qy
  replace Hp := Lib.hid qp; clear qp
  replace Hq := Lib.hid qq; clear qq
  have f0 : w6.cell? ⟨w.heap.size, 0, none⟩ = some (.int .i64 (V : Int)) := Hf.out.cell 0
  have f1 : w6.cell? ⟨w.heap.size, 1, none⟩ = some (.int .i64 (D : Int)) := Hf.out.cell 1
  have f2 : w6.cell? ⟨w.heap.size, 2, none⟩ = some (.slice a raws.length cap) := Hf.out.cell 2
  have x0 : w6.cell? ⟨w.heap.size + 1, 0, none⟩ = some (.int .i64 (V : Int)) := Hx.out.cell 0
  have fx0 : w6.frozen? ⟨w.heap.size + 1, 0, none⟩ = false := Hx.out.free 0
  have x1 : w6.cell? ⟨w.heap.size + 1, 1, none⟩ = some (.int .i64 (D : Int)) := Hx.out.cell 1
  have fx1 : w6.frozen? ⟨w.heap.size + 1, 1, none⟩ = false := Hx.out.free 1
  have x2 : w6.cell? ⟨w.heap.size + 1, 2, none⟩ = some (.slice (some ⟨r, 0, none⟩) raws.length raws.length) := Hx.out.cell 2
  have fx2 : w6.frozen? ⟨w.heap.size + 1, 2, none⟩ = false := Hx.out.free 2
  have y0 : w6.cell? ⟨w.heap.size + 1 + 1, 0, none⟩ = some (.int .i64 0) := Hy.out.cell 0
  have fy0 : w6.frozen? ⟨w.heap.size + 1 + 1, 0, none⟩ = false := Hy.out.free 0
  have y1 : w6.cell? ⟨w.heap.size + 1 + 1, 1, none⟩ = some (.int .i64 0) := Hy.out.cell 1
  have fy1 : w6.frozen? ⟨w.heap.size + 1 + 1, 1, none⟩ = false := Hy.out.free 1
  have y2 : w6.cell? ⟨w.heap.size + 1 + 1, 2, none⟩ = some (.slice none 0 0) := Hy.out.cell 2
  have fy2 : w6.frozen? ⟨w.heap.size + 1 + 1, 2, none⟩ = false := Hy.out.free 2
  replace Hb := Lib.hid hbn; clear hbn
  refine planF rfl rfl (fun K hK => ?_)
  go_simp
  refine hK _ _ (fun h => absurd h (by decide)) ?_; clear hK K
  try simp only [Act.put, List.setIfInBounds_toArray, List.set_cons_zero, List.set_cons_succ]
  clear f0 f1 f2
  clear x0 fx0 x1 fx1 x2 fx2
  clear y0 fy0 y1 fy1 y2 fy2
  refine plan_world (fun w7 => Blk w7 (w.heap.size) 24 [.int .i64 (V : Int), .int .i64 (D : Int), .slice a raws.length cap] ∧ Blk w7 (w.heap.size + 1) 24 [.int .i64 (V : Int), .int .i64 (D : Int), .slice (some ⟨r, 0, none⟩) raws.length raws.length] ∧ Blk w7 (w.heap.size + 1 + 1) 24 [.int .i64 (V : Int), .int .i64 (D : Int), .slice (some ⟨s, 0, none⟩) raws.length raws.length] ∧ Blk w7 (r) 36 (dC (colL (rowsL (V + 1) D) (halfP i j (rowsL (V + 1) D) (raws.map dval)))) ∧ Blk w7 (s) 36 (dC (colL (rowsL (V + 1) D) (halfP j i (rowsL (V + 1) D) (raws.map dval)))) ∧ Below w.heap.size w w7) (by first | exact ⟨(((Hf.out.set_other ⟨w.heap.size + 1 + 1, 0, none⟩ (by first | (dsimp only; omega) | (simp <;> omega)) _).set_other ⟨w.heap.size + 1 + 1, 1, none⟩ (by first | (dsimp only; omega) | (simp <;> omega)) _).set_other ⟨w.heap.size + 1 + 1, 2, none⟩ (by first | (dsimp only; omega) | (simp <;> omega)) _), (((Hx.out.set_other ⟨w.heap.size + 1 + 1, 0, none⟩ (by first | (dsimp only; omega) | (simp <;> omega)) _).set_other ⟨w.heap.size + 1 + 1, 1, none⟩ (by first | (dsimp only; omega) | (simp <;> omega)) _).set_other ⟨w.heap.size + 1 + 1, 2, none⟩ (by first | (dsimp only; omega) | (simp <;> omega)) _), (((Hy.out.set 0 _).set 1 _).set 2 _), (((Hp.out.set_other ⟨w.heap.size + 1 + 1, 0, none⟩ (by first | (dsimp only; omega) | (simp <;> omega)) _).set_other ⟨w.heap.size + 1 + 1, 1, none⟩ (by first | (dsimp only; omega) | (simp <;> omega)) _).set_other ⟨w.heap.size + 1 + 1, 2, none⟩ (by first | (dsimp only; omega) | (simp <;> omega)) _), (((Hq.out.set_other ⟨w.heap.size + 1 + 1, 0, none⟩ (by first | (dsimp only; omega) | (simp <;> omega)) _).set_other ⟨w.heap.size + 1 + 1, 1, none⟩ (by first | (dsimp only; omega) | (simp <;> omega)) _).set_other ⟨w.heap.size + 1 + 1, 2, none⟩ (by first | (dsimp only; omega) | (simp <;> omega)) _), (((Hb.out.setCell (p := ⟨w.heap.size + 1 + 1, 0, none⟩) (by have := Hb.out.size; first | (dsimp only; omega) | (simp <;> omega)) _).setCell (p := ⟨w.heap.size + 1 + 1, 1, none⟩) (by have := Hb.out.size; first | (dsimp only; omega) | (simp <;> omega)) _).setCell (p := ⟨w.heap.size + 1 + 1, 2, none⟩) (by have := Hb.out.size; first | (dsimp only; omega) | (simp <;> omega)) _)⟩ | exact ⟨(((Hf.out.set_other ⟨w.heap.size + 1 + 1, 0, none⟩ (by first | (dsimp only; omega) | (simp <;> omega)) _).set_other ⟨w.heap.size + 1 + 1, 1, none⟩ (by first | (dsimp only; omega) | (simp <;> omega)) _).set_other ⟨w.heap.size + 1 + 1, 2, none⟩ (by first | (dsimp only; omega) | (simp <;> omega)) _), (((Hx.out.set_other ⟨w.heap.size + 1 + 1, 0, none⟩ (by first | (dsimp only; omega) | (simp <;> omega)) _).set_other ⟨w.heap.size + 1 + 1, 1, none⟩ (by first | (dsimp only; omega) | (simp <;> omega)) _).set_other ⟨w.heap.size + 1 + 1, 2, none⟩ (by first | (dsimp only; omega) | (simp <;> omega)) _), (((Hy.out.set 0 _).set 1 _).set 2 _), (((Hp.out.set_other ⟨w.heap.size + 1 + 1, 0, none⟩ (by first | (dsimp only; omega) | (simp <;> omega)) _).set_other ⟨w.heap.size + 1 + 1, 1, none⟩ (by first | (dsimp only; omega) | (simp <;> omega)) _).set_other ⟨w.heap.size + 1 + 1, 2, none⟩ (by first | (dsimp only; omega) | (simp <;> omega)) _), (((Hq.out.set_other ⟨w.heap.size + 1 + 1, 0, none⟩ (by first | (dsimp only; omega) | (simp <;> omega)) _).set_other ⟨w.heap.size + 1 + 1, 1, none⟩ (by first | (dsimp only; omega) | (simp <;> omega)) _).set_other ⟨w.heap.size + 1 + 1, 2, none⟩ (by first | (dsimp only; omega) | (simp <;> omega)) _), Below.drew (((Hb.out.setCell (p := ⟨w.heap.size + 1 + 1, 0, none⟩) (by have := Hb.out.size; first | (dsimp only; omega) | (simp <;> omega)) _).setCell (p := ⟨w.heap.size + 1 + 1, 1, none⟩) (by have := Hb.out.size; first | (dsimp only; omega) | (simp <;> omega)) _).setCell (p := ⟨w.heap.size + 1 + 1, 2, none⟩) (by have := Hb.out.size; first | (dsimp only; omega) | (simp <;> omega)) _)⟩) ?_
  rintro w7 ⟨qf, qx, qy, qp, qq, hbn⟩
  replace Hf := Lib.hid qf; clear qf
  replace Hx := Lib.hid qx; clear qx
  replace Hy := Lib.hid qy; clear qy
  replace Hp := Lib.hid qp; clear qp
  replace Hq := Lib.hid qq; clear qq
  have f0 : w7.cell? ⟨w.heap.size, 0, none⟩ = some (.int .i64 (V : Int)) := Hf.out.cell 0
  have f1 : w7.cell? ⟨w.heap.size, 1, none⟩ = some (.int .i64 (D : Int)) := Hf.out.cell 1
  have f2 : w7.cell? ⟨w.heap.size, 2, none⟩ = some (.slice a raws.length cap) := Hf.out.cell 2
  have x0 : w7.cell? ⟨w.heap.size + 1, 0, none⟩ = some (.int .i64 (V : Int)) := Hx.out.cell 0
  have fx0 : w7.frozen? ⟨w.heap.size + 1, 0, none⟩ = false := Hx.out.free 0
  have x1 : w7.cell? ⟨w.heap.size + 1, 1, none⟩ = some (.int .i64 (D : Int)) := Hx.out.cell 1
  have fx1 : w7.frozen? ⟨w.heap.size + 1, 1, none⟩ = false := Hx.out.free 1
  have x2 : w7.cell? ⟨w.heap.size + 1, 2, none⟩ = some (.slice (some ⟨r, 0, none⟩) raws.length raws.length) := Hx.out.cell 2
  have fx2 : w7.frozen? ⟨w.heap.size + 1, 2, none⟩ = false := Hx.out.free 2
  have y0 : w7.cell? ⟨w.heap.size + 1 + 1, 0, none⟩ = some (.int .i64 (V : Int)) := Hy.out.cell 0
  have fy0 : w7.frozen? ⟨w.heap.size + 1 + 1, 0, none⟩ = false := Hy.out.free 0
  have y1 : w7.cell? ⟨w.heap.size + 1 + 1, 1, none⟩ = some (.int .i64 (D : Int)) := Hy.out.cell 1
  have fy1 : w7.frozen? ⟨w.heap.size + 1 + 1, 1, none⟩ = false := Hy.out.free 1
  have y2 : w7.cell? ⟨w.heap.size + 1 + 1, 2, none⟩ = some (.slice (some ⟨s, 0, none⟩) raws.length raws.length) := Hy.out.cell 2
  have fy2 : w7.frozen? ⟨w.heap.size + 1 + 1, 2, none⟩ = false := Hy.out.free 2
  replace Hb := Lib.hid hbn; clear hbn
  refine planF rfl rfl (fun K hK => ?_)
  go_simp
  refine hK _ _ (fun h => absurd h (by decide)) ?_; clear hK K
  try simp only [Act.put, List.setIfInBounds_toArray, List.set_cons_zero, List.set_cons_succ]
  simp only [wpPlan]
  go_wp2
  refine bodyPost_ret (v := .tuple #[.agg #[.int .i64 (V : Int), .int .i64 (D : Int), .slice (some ⟨r, 0, none⟩) raws.length raws.length], .agg #[.int .i64 (V : Int), .int .i64 (D : Int), .slice (some ⟨s, 0, none⟩) raws.length raws.length], .int .i64 0]) (by simp [results, Tryz.results7, go_sem, x0, x1, x2, y0, y1, y2]) rfl ⟨r, s, rfl, Hp.out, Hq.out, by omega, by omega, Hb.out⟩
end Go.Proofs.YtidjljldhdckiaaGreatDoor
