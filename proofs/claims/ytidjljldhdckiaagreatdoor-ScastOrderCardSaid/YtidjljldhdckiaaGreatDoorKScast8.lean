/- Package scast: Lift. -/
import Derived.Test.YtidjljldhdckiaaGreatDoorKScast7
namespace Go.Proofs.YtidjljldhdckiaaGreatDoor
open Go.RowKit
attribute [local go_sem ↓] Go.wp_at_zero Go.wp_at_succ

set_option maxHeartbeats 2000000 in
theorem lift_err (v d : Int) (a : Option Addr) (n cap : Nat) (c : Int) (w : World) (hc : chk v d n = c) (h0 : (c != 0) = true) :
    Calls Tryz.prog 8 #[.agg #[.int .i64 v, .int .i64 d, .slice a n cap]] w fun e w' => e = .returned (.tuple #[sf0, .int .i64 c]) ∧ Below w.heap.size w w' := by
  have Hc := Lib.hid hc; clear hc
  obtain ⟨W, hW_W⟩ : ∃ W, ((w.alloc (.cells #[.int .i64 v, .int .i64 d, .slice a n cap] 24)).alloc (.cells #[.int .i64 0, .int .i64 0, .slice none 0 0] 24)) = W := ⟨_, rfl⟩
  have Hb : Hid (Below w.heap.size w W) := by rw [← hW_W]; exact (((Below.refl _ _).alloc (Nat.le_refl _) _).alloc (by simp <;> omega) _)
  have Hf : Hid (Blk W (w.heap.size) 24 [.int .i64 v, .int .i64 d, .slice a n cap]) := by rw [← hW_W]; exact (Blk.newAt _ _ _ (by simp)).alloc _
  have Hr : Hid (Blk W (w.heap.size + 1) 24 [.int .i64 0, .int .i64 0, .slice none 0 0]) := by rw [← hW_W]; exact Blk.newAt _ _ _ (by simp)
  have f0 : W.cell? ⟨w.heap.size, 0, none⟩ = some (.int .i64 v) := Hf.out.cell 0
  have f1 : W.cell? ⟨w.heap.size, 1, none⟩ = some (.int .i64 d) := Hf.out.cell 1
  have f2 : W.cell? ⟨w.heap.size, 2, none⟩ = some (.slice a n cap) := Hf.out.cell 2
  have r0 : W.cell? ⟨w.heap.size + 1, 0, none⟩ = some (.int .i64 0) := Hr.out.cell 0
  have fr0 : W.frozen? ⟨w.heap.size + 1, 0, none⟩ = false := Hr.out.free 0
  have r1 : W.cell? ⟨w.heap.size + 1, 1, none⟩ = some (.int .i64 0) := Hr.out.cell 1
  have fr1 : W.frozen? ⟨w.heap.size + 1, 1, none⟩ = false := Hr.out.free 1
  have r2 : W.cell? ⟨w.heap.size + 1, 2, none⟩ = some (.slice none 0 0) := Hr.out.cell 2
  have fr2 : W.frozen? ⟨w.heap.size + 1, 2, none⟩ = false := Hr.out.free 2
  go_enter Tryz.func8, Tryz.ntmps8
  go_wp2_with fail
  refine (check_any v d a n cap c Hc.out _).mono ?_
  rintro e w1 ⟨rfl, hbn⟩
  clear f0 f1 f2
  clear r0 fr0 r1 fr1 r2 fr2
  replace Hf := Lib.hid (Hf.out.below hbn)
  replace Hr := Lib.hid (Hr.out.below hbn)
  have f0 : w1.cell? ⟨w.heap.size, 0, none⟩ = some (.int .i64 v) := Hf.out.cell 0
  have f1 : w1.cell? ⟨w.heap.size, 1, none⟩ = some (.int .i64 d) := Hf.out.cell 1
  have f2 : w1.cell? ⟨w.heap.size, 2, none⟩ = some (.slice a n cap) := Hf.out.cell 2
  have r0 : w1.cell? ⟨w.heap.size + 1, 0, none⟩ = some (.int .i64 0) := Hr.out.cell 0
  have fr0 : w1.frozen? ⟨w.heap.size + 1, 0, none⟩ = false := Hr.out.free 0
  have r1 : w1.cell? ⟨w.heap.size + 1, 1, none⟩ = some (.int .i64 0) := Hr.out.cell 1
  have fr1 : w1.frozen? ⟨w.heap.size + 1, 1, none⟩ = false := Hr.out.free 1
  have r2 : w1.cell? ⟨w.heap.size + 1, 2, none⟩ = some (.slice none 0 0) := Hr.out.cell 2
  have fr2 : w1.frozen? ⟨w.heap.size + 1, 2, none⟩ = false := Hr.out.free 2
  replace Hb := Lib.hid (bnext Hb.out hbn); clear hbn
  go_wp2
  clear f0 f1 f2
  clear r0 fr0 r1 fr1 r2 fr2
  refine body_world (fun w9 => Blk w9 (w.heap.size) 24 [.int .i64 v, .int .i64 d, .slice a n cap] ∧ Blk w9 (w.heap.size + 1) 24 [.int .i64 0, .int .i64 0, .slice none 0 0] ∧ Below w.heap.size w w9) ⟨(((Hf.out.set_other ⟨w.heap.size + 1, 0, none⟩ (by first | (dsimp only; omega) | (show _ ≠ _; omega) | (simp <;> omega)) _).set_other ⟨w.heap.size + 1, 1, none⟩ (by first | (dsimp only; omega) | (show _ ≠ _; omega) | (simp <;> omega)) _).set_other ⟨w.heap.size + 1, 2, none⟩ (by first | (dsimp only; omega) | (show _ ≠ _; omega) | (simp <;> omega)) _), (((Hr.out.set 0 _).set 1 _).set 2 _), (((Hb.out.setCell (p := ⟨w.heap.size + 1, 0, none⟩) (by have := Hb.out.size; first | (dsimp only; omega) | (show _ ≤ _; omega) | (simp <;> omega)) _).setCell (p := ⟨w.heap.size + 1, 1, none⟩) (by have := Hb.out.size; first | (dsimp only; omega) | (show _ ≤ _; omega) | (simp <;> omega)) _).setCell (p := ⟨w.heap.size + 1, 2, none⟩) (by have := Hb.out.size; first | (dsimp only; omega) | (show _ ≤ _; omega) | (simp <;> omega)) _)⟩ ?_
  rintro w9 ⟨qf, qr, hbn⟩
  replace Hf := Lib.hid qf; clear qf
  replace Hr := Lib.hid qr; clear qr
  have f0 : w9.cell? ⟨w.heap.size, 0, none⟩ = some (.int .i64 v) := Hf.out.cell 0
  have f1 : w9.cell? ⟨w.heap.size, 1, none⟩ = some (.int .i64 d) := Hf.out.cell 1
  have f2 : w9.cell? ⟨w.heap.size, 2, none⟩ = some (.slice a n cap) := Hf.out.cell 2
  have r0 : w9.cell? ⟨w.heap.size + 1, 0, none⟩ = some (.int .i64 0) := Hr.out.cell 0
  have fr0 : w9.frozen? ⟨w.heap.size + 1, 0, none⟩ = false := Hr.out.free 0
  have r1 : w9.cell? ⟨w.heap.size + 1, 1, none⟩ = some (.int .i64 0) := Hr.out.cell 1
  have fr1 : w9.frozen? ⟨w.heap.size + 1, 1, none⟩ = false := Hr.out.free 1
  have r2 : w9.cell? ⟨w.heap.size + 1, 2, none⟩ = some (.slice none 0 0) := Hr.out.cell 2
  have fr2 : w9.frozen? ⟨w.heap.size + 1, 2, none⟩ = false := Hr.out.free 2
  replace Hb := Lib.hid hbn; clear hbn
  refine bodyPost_ret (v := .tuple #[sf0, .int .i64 c]) (by simp [results, Tryz.results8, go_sem, r0, r1, r2]) rfl ⟨rfl, Hb.out⟩

set_option maxHeartbeats 2000000 in
theorem lift_top (v d : Int) (a : Option Addr) (n cap : Nat) (w : World) (hc : chk v d n = 0) (h0 : (d == 20) = true) :
    Calls Tryz.prog 8 #[.agg #[.int .i64 v, .int .i64 d, .slice a n cap]] w fun e w' => e = .returned (.tuple #[sf0, .int .i64 1]) ∧ Below w.heap.size w w' := by
  have Hc := Lib.hid hc; clear hc
  obtain ⟨W, hW_W⟩ : ∃ W, ((w.alloc (.cells #[.int .i64 v, .int .i64 d, .slice a n cap] 24)).alloc (.cells #[.int .i64 0, .int .i64 0, .slice none 0 0] 24)) = W := ⟨_, rfl⟩
  have Hb : Hid (Below w.heap.size w W) := by rw [← hW_W]; exact (((Below.refl _ _).alloc (Nat.le_refl _) _).alloc (by simp <;> omega) _)
  have Hf : Hid (Blk W (w.heap.size) 24 [.int .i64 v, .int .i64 d, .slice a n cap]) := by rw [← hW_W]; exact (Blk.newAt _ _ _ (by simp)).alloc _
  have Hr : Hid (Blk W (w.heap.size + 1) 24 [.int .i64 0, .int .i64 0, .slice none 0 0]) := by rw [← hW_W]; exact Blk.newAt _ _ _ (by simp)
  have f0 : W.cell? ⟨w.heap.size, 0, none⟩ = some (.int .i64 v) := Hf.out.cell 0
  have f1 : W.cell? ⟨w.heap.size, 1, none⟩ = some (.int .i64 d) := Hf.out.cell 1
  have f2 : W.cell? ⟨w.heap.size, 2, none⟩ = some (.slice a n cap) := Hf.out.cell 2
  have r0 : W.cell? ⟨w.heap.size + 1, 0, none⟩ = some (.int .i64 0) := Hr.out.cell 0
  have fr0 : W.frozen? ⟨w.heap.size + 1, 0, none⟩ = false := Hr.out.free 0
  have r1 : W.cell? ⟨w.heap.size + 1, 1, none⟩ = some (.int .i64 0) := Hr.out.cell 1
  have fr1 : W.frozen? ⟨w.heap.size + 1, 1, none⟩ = false := Hr.out.free 1
  have r2 : W.cell? ⟨w.heap.size + 1, 2, none⟩ = some (.slice none 0 0) := Hr.out.cell 2
  have fr2 : W.frozen? ⟨w.heap.size + 1, 2, none⟩ = false := Hr.out.free 2
  go_enter Tryz.func8, Tryz.ntmps8
  go_wp2_with fail
  refine (check_any v d a n cap 0 Hc.out _).mono ?_
  rintro e w1 ⟨rfl, hbn⟩
  clear f0 f1 f2
  clear r0 fr0 r1 fr1 r2 fr2
  replace Hf := Lib.hid (Hf.out.below hbn)
  replace Hr := Lib.hid (Hr.out.below hbn)
  have f0 : w1.cell? ⟨w.heap.size, 0, none⟩ = some (.int .i64 v) := Hf.out.cell 0
  have f1 : w1.cell? ⟨w.heap.size, 1, none⟩ = some (.int .i64 d) := Hf.out.cell 1
  have f2 : w1.cell? ⟨w.heap.size, 2, none⟩ = some (.slice a n cap) := Hf.out.cell 2
  have r0 : w1.cell? ⟨w.heap.size + 1, 0, none⟩ = some (.int .i64 0) := Hr.out.cell 0
  have fr0 : w1.frozen? ⟨w.heap.size + 1, 0, none⟩ = false := Hr.out.free 0
  have r1 : w1.cell? ⟨w.heap.size + 1, 1, none⟩ = some (.int .i64 0) := Hr.out.cell 1
  have fr1 : w1.frozen? ⟨w.heap.size + 1, 1, none⟩ = false := Hr.out.free 1
  have r2 : w1.cell? ⟨w.heap.size + 1, 2, none⟩ = some (.slice none 0 0) := Hr.out.cell 2
  have fr2 : w1.frozen? ⟨w.heap.size + 1, 2, none⟩ = false := Hr.out.free 2
  replace Hb := Lib.hid (bnext Hb.out hbn); clear hbn
  go_wp2
  clear f0 f1 f2
  clear r0 fr0 r1 fr1 r2 fr2
  refine body_world (fun w9 => Blk w9 (w.heap.size) 24 [.int .i64 v, .int .i64 d, .slice a n cap] ∧ Blk w9 (w.heap.size + 1) 24 [.int .i64 0, .int .i64 0, .slice none 0 0] ∧ Below w.heap.size w w9) ⟨(((Hf.out.set_other ⟨w.heap.size + 1, 0, none⟩ (by first | (dsimp only; omega) | (show _ ≠ _; omega) | (simp <;> omega)) _).set_other ⟨w.heap.size + 1, 1, none⟩ (by first | (dsimp only; omega) | (show _ ≠ _; omega) | (simp <;> omega)) _).set_other ⟨w.heap.size + 1, 2, none⟩ (by first | (dsimp only; omega) | (show _ ≠ _; omega) | (simp <;> omega)) _), (((Hr.out.set 0 _).set 1 _).set 2 _), (((Hb.out.setCell (p := ⟨w.heap.size + 1, 0, none⟩) (by have := Hb.out.size; first | (dsimp only; omega) | (show _ ≤ _; omega) | (simp <;> omega)) _).setCell (p := ⟨w.heap.size + 1, 1, none⟩) (by have := Hb.out.size; first | (dsimp only; omega) | (show _ ≤ _; omega) | (simp <;> omega)) _).setCell (p := ⟨w.heap.size + 1, 2, none⟩) (by have := Hb.out.size; first | (dsimp only; omega) | (show _ ≤ _; omega) | (simp <;> omega)) _)⟩ ?_
  rintro w9 ⟨qf, qr, hbn⟩
  replace Hf := Lib.hid qf; clear qf
  replace Hr := Lib.hid qr; clear qr
  have f0 : w9.cell? ⟨w.heap.size, 0, none⟩ = some (.int .i64 v) := Hf.out.cell 0
  have f1 : w9.cell? ⟨w.heap.size, 1, none⟩ = some (.int .i64 d) := Hf.out.cell 1
  have f2 : w9.cell? ⟨w.heap.size, 2, none⟩ = some (.slice a n cap) := Hf.out.cell 2
  have r0 : w9.cell? ⟨w.heap.size + 1, 0, none⟩ = some (.int .i64 0) := Hr.out.cell 0
  have fr0 : w9.frozen? ⟨w.heap.size + 1, 0, none⟩ = false := Hr.out.free 0
  have r1 : w9.cell? ⟨w.heap.size + 1, 1, none⟩ = some (.int .i64 0) := Hr.out.cell 1
  have fr1 : w9.frozen? ⟨w.heap.size + 1, 1, none⟩ = false := Hr.out.free 1
  have r2 : w9.cell? ⟨w.heap.size + 1, 2, none⟩ = some (.slice none 0 0) := Hr.out.cell 2
  have fr2 : w9.frozen? ⟨w.heap.size + 1, 2, none⟩ = false := Hr.out.free 2
  replace Hb := Lib.hid hbn; clear hbn
  refine bodyPost_ret (v := .tuple #[sf0, .int .i64 1]) (by simp [results, Tryz.results8, go_sem, r0, r1, r2]) rfl ⟨rfl, Hb.out⟩

theorem liftR_len (x : List Nat) (c : Dyadic) : (liftR x c).length = x.length := by simp [liftR]
/-- What Lift makes of a form's numbers. -/
def liftL (V D : Nat) (cs : List Dyadic) : List Dyadic := colL (rowsL (V + 1) (D + 1)) (liftP (rowsL (V + 1) D) cs)

set_option maxHeartbeats 4000000 in
set_option maxRecDepth 100000 in
theorem lift_lim (V D : Nat) (a : Option Addr) (n cap : Nat) (w : World) (hc : chk V D n = 0) (hD : D < 20) (hk : ¬ cnt V (D + 1) ≤ 512) :
    Calls Tryz.prog 8 #[.agg #[.int .i64 (V : Int), .int .i64 (D : Int), .slice a n cap]] w fun e w' => e = .returned (.tuple #[sf0, .int .i64 3]) ∧ Below w.heap.size w w' := by
  have hbeg := begin_any (V : Int) ((D : Int) + 1) (fun l hl => Nat.le_trans (keysL_len _ _ l hl) (by decide))
  have hkl : (keysL (V : Int) ((D : Int) + 1)).length = 0 := by
    unfold keysL prodsL
    rw [if_neg]
    · rfl
    · rintro ⟨_, _, _, _, h⟩
      have e : ((D : Int) + 1).toNat = D + 1 := by omega
      rw [e] at h
      simp only [Int.toNat_natCast] at h
      exact hk h
  rw [hkl] at hbeg
  have h20 : ((D : Int) == 20) = false := by simp; omega
  have Hc := Lib.hid hc; have Hbeg := Lib.hid hbeg; clear hc hbeg hkl hk
  obtain ⟨W, hW_W⟩ : ∃ W, ((w.alloc (.cells #[.int .i64 (V : Int), .int .i64 (D : Int), .slice a n cap] 24)).alloc (.cells #[.int .i64 0, .int .i64 0, .slice none 0 0] 24)) = W := ⟨_, rfl⟩
  have Hb : Hid (Below w.heap.size w W) := by rw [← hW_W]; exact (((Below.refl _ _).alloc (Nat.le_refl _) _).alloc (by simp <;> omega) _)
  have Hf : Hid (Blk W (w.heap.size) 24 [.int .i64 (V : Int), .int .i64 (D : Int), .slice a n cap]) := by rw [← hW_W]; exact (Blk.newAt _ _ _ (by simp)).alloc _
  have Hr : Hid (Blk W (w.heap.size + 1) 24 [.int .i64 0, .int .i64 0, .slice none 0 0]) := by rw [← hW_W]; exact Blk.newAt _ _ _ (by simp)
  have f0 : W.cell? ⟨w.heap.size, 0, none⟩ = some (.int .i64 (V : Int)) := Hf.out.cell 0
  have f1 : W.cell? ⟨w.heap.size, 1, none⟩ = some (.int .i64 (D : Int)) := Hf.out.cell 1
  have f2 : W.cell? ⟨w.heap.size, 2, none⟩ = some (.slice a n cap) := Hf.out.cell 2
  have r0 : W.cell? ⟨w.heap.size + 1, 0, none⟩ = some (.int .i64 0) := Hr.out.cell 0
  have fr0 : W.frozen? ⟨w.heap.size + 1, 0, none⟩ = false := Hr.out.free 0
  have r1 : W.cell? ⟨w.heap.size + 1, 1, none⟩ = some (.int .i64 0) := Hr.out.cell 1
  have fr1 : W.frozen? ⟨w.heap.size + 1, 1, none⟩ = false := Hr.out.free 1
  have r2 : W.cell? ⟨w.heap.size + 1, 2, none⟩ = some (.slice none 0 0) := Hr.out.cell 2
  have fr2 : W.frozen? ⟨w.heap.size + 1, 2, none⟩ = false := Hr.out.free 2
  go_enter Tryz.func8, Tryz.ntmps8
  go_wp2_with fail
  refine (check_any V D a n cap 0 Hc.out _).mono ?_
  rintro e w1 ⟨rfl, hbn⟩
  clear f0 f1 f2
  clear r0 fr0 r1 fr1 r2 fr2
  replace Hf := Lib.hid (Hf.out.below hbn)
  replace Hr := Lib.hid (Hr.out.below hbn)
  have f0 : w1.cell? ⟨w.heap.size, 0, none⟩ = some (.int .i64 (V : Int)) := Hf.out.cell 0
  have f1 : w1.cell? ⟨w.heap.size, 1, none⟩ = some (.int .i64 (D : Int)) := Hf.out.cell 1
  have f2 : w1.cell? ⟨w.heap.size, 2, none⟩ = some (.slice a n cap) := Hf.out.cell 2
  have r0 : w1.cell? ⟨w.heap.size + 1, 0, none⟩ = some (.int .i64 0) := Hr.out.cell 0
  have fr0 : w1.frozen? ⟨w.heap.size + 1, 0, none⟩ = false := Hr.out.free 0
  have r1 : w1.cell? ⟨w.heap.size + 1, 1, none⟩ = some (.int .i64 0) := Hr.out.cell 1
  have fr1 : w1.frozen? ⟨w.heap.size + 1, 1, none⟩ = false := Hr.out.free 1
  have r2 : w1.cell? ⟨w.heap.size + 1, 2, none⟩ = some (.slice none 0 0) := Hr.out.cell 2
  have fr2 : w1.frozen? ⟨w.heap.size + 1, 2, none⟩ = false := Hr.out.free 2
  replace Hb := Lib.hid (bnext Hb.out hbn); clear hbn
  go_wp2_with fail
  refine (Hbeg.out _).mono ?_
  rintro e w2 ⟨bB, bm, rfl, _, hbn⟩
  clear f0 f1 f2
  clear r0 fr0 r1 fr1 r2 fr2
  replace Hf := Lib.hid (Hf.out.below hbn)
  replace Hr := Lib.hid (Hr.out.below hbn)
  have f0 : w2.cell? ⟨w.heap.size, 0, none⟩ = some (.int .i64 (V : Int)) := Hf.out.cell 0
  have f1 : w2.cell? ⟨w.heap.size, 1, none⟩ = some (.int .i64 (D : Int)) := Hf.out.cell 1
  have f2 : w2.cell? ⟨w.heap.size, 2, none⟩ = some (.slice a n cap) := Hf.out.cell 2
  have r0 : w2.cell? ⟨w.heap.size + 1, 0, none⟩ = some (.int .i64 0) := Hr.out.cell 0
  have fr0 : w2.frozen? ⟨w.heap.size + 1, 0, none⟩ = false := Hr.out.free 0
  have r1 : w2.cell? ⟨w.heap.size + 1, 1, none⟩ = some (.int .i64 0) := Hr.out.cell 1
  have fr1 : w2.frozen? ⟨w.heap.size + 1, 1, none⟩ = false := Hr.out.free 1
  have r2 : w2.cell? ⟨w.heap.size + 1, 2, none⟩ = some (.slice none 0 0) := Hr.out.cell 2
  have fr2 : w2.frozen? ⟨w.heap.size + 1, 2, none⟩ = false := Hr.out.free 2
  replace Hb := Lib.hid (bnext Hb.out hbn); clear hbn
  have lz_f_w3 : w.heap.size < w2.heap.size := Hf.out.lt
  have lz_r_w3 : w.heap.size + 1 < w2.heap.size := Hr.out.lt
  obtain ⟨w3, hW_w3⟩ : ∃ w3, (w2.alloc (.cells #[.int .i64 (V : Int), .int .i64 ((D : Int) + 1), .slice (some ⟨bB, 0, none⟩) 0 0, .map (some bm)] 64)) = w3 := ⟨_, rfl⟩
  have hbn : Below w2.heap.size w2 w3 := by rw [← hW_w3]; exact ((Below.refl _ _).alloc (Nat.le_refl _) _)
  clear f0 f1 f2
  replace Hf := Lib.hid (Hf.out.below hbn)
  clear r0 fr0 r1 fr1 r2 fr2
  replace Hr := Lib.hid (Hr.out.below hbn)
  have Hx : Hid (Blk w3 (w2.heap.size) 64 [.int .i64 (V : Int), .int .i64 ((D : Int) + 1), .slice (some ⟨bB, 0, none⟩) 0 0, .map (some bm)]) := by rw [← hW_w3]; exact Blk.newAt _ _ _ (by simp)
  have f0 : w3.cell? ⟨w.heap.size, 0, none⟩ = some (.int .i64 (V : Int)) := Hf.out.cell 0
  have f1 : w3.cell? ⟨w.heap.size, 1, none⟩ = some (.int .i64 (D : Int)) := Hf.out.cell 1
  have f2 : w3.cell? ⟨w.heap.size, 2, none⟩ = some (.slice a n cap) := Hf.out.cell 2
  have r0 : w3.cell? ⟨w.heap.size + 1, 0, none⟩ = some (.int .i64 0) := Hr.out.cell 0
  have fr0 : w3.frozen? ⟨w.heap.size + 1, 0, none⟩ = false := Hr.out.free 0
  have r1 : w3.cell? ⟨w.heap.size + 1, 1, none⟩ = some (.int .i64 0) := Hr.out.cell 1
  have fr1 : w3.frozen? ⟨w.heap.size + 1, 1, none⟩ = false := Hr.out.free 1
  have r2 : w3.cell? ⟨w.heap.size + 1, 2, none⟩ = some (.slice none 0 0) := Hr.out.cell 2
  have fr2 : w3.frozen? ⟨w.heap.size + 1, 2, none⟩ = false := Hr.out.free 2
  have x0 : w3.cell? ⟨w2.heap.size, 0, none⟩ = some (.int .i64 (V : Int)) := Hx.out.cell 0
  have x1 : w3.cell? ⟨w2.heap.size, 1, none⟩ = some (.int .i64 ((D : Int) + 1)) := Hx.out.cell 1
  have x2 : w3.cell? ⟨w2.heap.size, 2, none⟩ = some (.slice (some ⟨bB, 0, none⟩) 0 0) := Hx.out.cell 2
  have x3 : w3.cell? ⟨w2.heap.size, 3, none⟩ = some (.map (some bm)) := Hx.out.cell 3
  replace Hb := Lib.hid (bnext Hb.out hbn); clear hbn
  go_wp2
  clear f0 f1 f2
  clear r0 fr0 r1 fr1 r2 fr2
  clear x0 x1 x2 x3
  refine body_world (fun w9 => Blk w9 (w.heap.size) 24 [.int .i64 (V : Int), .int .i64 (D : Int), .slice a n cap] ∧ Blk w9 (w.heap.size + 1) 24 [.int .i64 0, .int .i64 0, .slice none 0 0] ∧ Blk w9 (w2.heap.size) 64 [.int .i64 (V : Int), .int .i64 ((D : Int) + 1), .slice (some ⟨bB, 0, none⟩) 0 0, .map (some bm)] ∧ Below w.heap.size w w9) ⟨(((Hf.out.set_other ⟨w.heap.size + 1, 0, none⟩ (by first | (dsimp only; omega) | (show _ ≠ _; omega) | (simp <;> omega)) _).set_other ⟨w.heap.size + 1, 1, none⟩ (by first | (dsimp only; omega) | (show _ ≠ _; omega) | (simp <;> omega)) _).set_other ⟨w.heap.size + 1, 2, none⟩ (by first | (dsimp only; omega) | (show _ ≠ _; omega) | (simp <;> omega)) _), (((Hr.out.set 0 _).set 1 _).set 2 _), (((Hx.out.set_other ⟨w.heap.size + 1, 0, none⟩ (by first | (dsimp only; omega) | (show _ ≠ _; omega) | (simp <;> omega)) _).set_other ⟨w.heap.size + 1, 1, none⟩ (by first | (dsimp only; omega) | (show _ ≠ _; omega) | (simp <;> omega)) _).set_other ⟨w.heap.size + 1, 2, none⟩ (by first | (dsimp only; omega) | (show _ ≠ _; omega) | (simp <;> omega)) _), (((Hb.out.setCell (p := ⟨w.heap.size + 1, 0, none⟩) (by have := Hb.out.size; first | (dsimp only; omega) | (show _ ≤ _; omega) | (simp <;> omega)) _).setCell (p := ⟨w.heap.size + 1, 1, none⟩) (by have := Hb.out.size; first | (dsimp only; omega) | (show _ ≤ _; omega) | (simp <;> omega)) _).setCell (p := ⟨w.heap.size + 1, 2, none⟩) (by have := Hb.out.size; first | (dsimp only; omega) | (show _ ≤ _; omega) | (simp <;> omega)) _)⟩ ?_
  rintro w9 ⟨qf, qr, qx, hbn⟩
  replace Hf := Lib.hid qf; clear qf
  replace Hr := Lib.hid qr; clear qr
  replace Hx := Lib.hid qx; clear qx
  have f0 : w9.cell? ⟨w.heap.size, 0, none⟩ = some (.int .i64 (V : Int)) := Hf.out.cell 0
  have f1 : w9.cell? ⟨w.heap.size, 1, none⟩ = some (.int .i64 (D : Int)) := Hf.out.cell 1
  have f2 : w9.cell? ⟨w.heap.size, 2, none⟩ = some (.slice a n cap) := Hf.out.cell 2
  have r0 : w9.cell? ⟨w.heap.size + 1, 0, none⟩ = some (.int .i64 0) := Hr.out.cell 0
  have fr0 : w9.frozen? ⟨w.heap.size + 1, 0, none⟩ = false := Hr.out.free 0
  have r1 : w9.cell? ⟨w.heap.size + 1, 1, none⟩ = some (.int .i64 0) := Hr.out.cell 1
  have fr1 : w9.frozen? ⟨w.heap.size + 1, 1, none⟩ = false := Hr.out.free 1
  have r2 : w9.cell? ⟨w.heap.size + 1, 2, none⟩ = some (.slice none 0 0) := Hr.out.cell 2
  have fr2 : w9.frozen? ⟨w.heap.size + 1, 2, none⟩ = false := Hr.out.free 2
  have x0 : w9.cell? ⟨w2.heap.size, 0, none⟩ = some (.int .i64 (V : Int)) := Hx.out.cell 0
  have x1 : w9.cell? ⟨w2.heap.size, 1, none⟩ = some (.int .i64 ((D : Int) + 1)) := Hx.out.cell 1
  have x2 : w9.cell? ⟨w2.heap.size, 2, none⟩ = some (.slice (some ⟨bB, 0, none⟩) 0 0) := Hx.out.cell 2
  have x3 : w9.cell? ⟨w2.heap.size, 3, none⟩ = some (.map (some bm)) := Hx.out.cell 3
  replace Hb := Lib.hid hbn; clear hbn
  refine bodyPost_ret (v := .tuple #[sf0, .int .i64 3]) (by simp [results, Tryz.results8, go_sem, r0, r1, r2]) rfl ⟨rfl, Hb.out⟩

set_option maxHeartbeats 4000000 in
set_option maxRecDepth 100000 in
theorem lift_ok (V D : Nat) (a : Option Addr) (cap : Nat) (raws : List Raw) (B : Nat) (w : World) (hc0 : chk V D raws.length = 0) (hD : D < 20) (hc1 : cnt V (D + 1) ≤ 512)
    (hfit : ∀ x ∈ raws, Fit B x) (hBB : B ≤ 1000000) (ha : At w a (raws.flatMap numC)) (hT : Tab w) :
    Calls Tryz.prog 8 #[.agg #[.int .i64 (V : Int), .int .i64 (D : Int), .slice a raws.length cap]] w fun e w' => ∃ r,
      e = .returned (.tuple #[.agg #[.int .i64 (V : Int), .int .i64 ((D + 1 : Nat) : Int), .slice (some ⟨r, 0, none⟩) (cnt V (D + 1)) (cnt V (D + 1))], .int .i64 0]) ∧ Blk w' r 36 (dC (liftL V D (raws.map dval))) ∧ w.heap.size ≤ r ∧ Below w.heap.size w w' := by
  obtain ⟨c1, c2, c3, c4, c5, c6⟩ := chk_ok hc0
  simp only [Int.toNat_natCast] at c5
  have hlen : raws.length = cnt V D := c5
  have hc : cnt V D ≤ 512 := by omega
  have hV : 1 ≤ V := by omega
  have hV2 : V ≤ 8 := by omega
  obtain ⟨D1, hD1⟩ : ∃ D1 : Int, ((D + 1 : Nat) : Int) = D1 := ⟨_, rfl⟩
  have hw1 : IntKind.i64.wrap ((D : Int) + 1) = D1 := by rw [IntKind.wrap_i64]; omega
  obtain ⟨N, hN⟩ : ∃ N, cnt V (D + 1) = N := ⟨_, rfl⟩
  have hNp : 0 < N := by rw [← hN]; exact cnt_pos V (D + 1)
  have hRl : (rowsL (V + 1) D).length = raws.length := by rw [rowsL_count, hlen]
  have hRl' : (rowsL (V + 1) (D + 1)).length = N := by rw [rowsL_count, hN]
  have hkeys0 := keysL_rows V D hV hV2 (by omega) hc
  have hkeys := keysL_rows V (D + 1) hV hV2 (by omega) hc1
  have hbeg := begin_any (V : Int) ((D + 1 : Nat) : Int) (fun l hl => Nat.le_trans (keysL_len _ _ l hl) (by decide))
  obtain ⟨R, hR⟩ : ∃ R, rowsL (V + 1) D = R := ⟨_, rfl⟩
  obtain ⟨R', hR'⟩ : ∃ R', rowsL (V + 1) (D + 1) = R' := ⟨_, rfl⟩
  obtain ⟨f, hf⟩ : ∃ f, place (R'.map fun x => x.map UInt8.ofNat) R'.length = f := ⟨_, rfl⟩
  have hkl0 : (keysL (V : Int) (D : Int)).length = raws.length := by rw [hkeys0, List.length_map, hRl]
  have hkl : (keysL (V : Int) ((D + 1 : Nat) : Int)).length = N := by rw [hkeys, List.length_map, hRl']
  have hplace : ∀ x ∈ R', ∃ q, ∃ h : q < R'.length, R'[q] = x ∧ f (x.map UInt8.ofNat) = q := by
    intro x hx
    rw [← hR'] at hx
    have := place_row (n := V) (s := D + 1) (by omega) hx
    subst hR'; subst hf
    exact this
  have hpl : place (keysL (V : Int) ((D + 1 : Nat) : Int)) N = f := by rw [hkeys, ← hRl', hR', hf]
  rw [hkl, hpl] at hbeg
  rw [hD1] at hbeg ⊢
  unfold liftL
  rw [hR] at hRl hkeys0 ⊢
  rw [hR'] at hRl' ⊢
  rw [hN]
  have hmem : ∀ x ∈ R, x.length = V + 1 ∧ x.sum = D := fun x hx => (mem_rowsL V D x).1 (by rw [hR]; exact hx)
  have hmem2 : ∀ x, x.length = V + 1 → x.sum = D + 1 → x ∈ R' := fun x h1 h2 => by rw [← hR']; exact (mem_rowsL V (D + 1) x).2 ⟨h1, h2⟩
  have hnd : R'.Nodup := by rw [← hR']; exact rowsL_nodup V (D + 1)
  have h20 : ((D : Int) == 20) = false := by simp; omega
  have hN0 : ((N : Int) == 0) = false := by simp; omega
  have Hc := Lib.hid hc0; have Hbeg := Lib.hid hbeg; have Hkeys := Lib.hid hkeys0; have Hplace := Lib.hid hplace; have Hmem := Lib.hid hmem; have Hmem2 := Lib.hid hmem2; have Hnd := Lib.hid hnd; have HRl := Lib.hid hRl; have HRl' := Lib.hid hRl'; have Hfit := Lib.hid hfit; have Hlen := Lib.hid hlen; have HA := Lib.hid ha; have HT := Lib.hid hT; have Hkl := Lib.hid hkl0; have HN := Lib.hid hN
  have Hal : Hid (∀ b o, a = some ⟨b, o, none⟩ → b < w.heap.size) := by
    intro b o e
    subst e
    refine ha.lt (fun h0 => ?_)
    have h1 := congrArg List.length h0
    rw [flat_length numC 3 (fun _ => rfl)] at h1
    have := cnt_pos V D
    rw [List.length_nil] at h1
    omega
  clear hD1 hbeg hkeys hkeys0 hplace hmem hmem2 hnd hRl hRl' hfit hlen ha hT hR hR' hf hpl hkl hkl0 hc0 c5 c6 hN hc1
  obtain ⟨W, hW_W⟩ : ∃ W, ((w.alloc (.cells #[.int .i64 (V : Int), .int .i64 (D : Int), .slice a raws.length cap] 24)).alloc (.cells #[.int .i64 0, .int .i64 0, .slice none 0 0] 24)) = W := ⟨_, rfl⟩
  have Hb : Hid (Below w.heap.size w W) := by rw [← hW_W]; exact (((Below.refl _ _).alloc (Nat.le_refl _) _).alloc (by simp <;> omega) _)
  have Hq : Hid (Blk W (w.heap.size) 24 [.int .i64 (V : Int), .int .i64 (D : Int), .slice a raws.length cap]) := by rw [← hW_W]; exact (Blk.newAt _ _ _ (by simp)).alloc _
  have Hr : Hid (Blk W (w.heap.size + 1) 24 [.int .i64 0, .int .i64 0, .slice none 0 0]) := by rw [← hW_W]; exact Blk.newAt _ _ _ (by simp)
  have q0 : W.cell? ⟨w.heap.size, 0, none⟩ = some (.int .i64 (V : Int)) := Hq.out.cell 0
  have q1 : W.cell? ⟨w.heap.size, 1, none⟩ = some (.int .i64 (D : Int)) := Hq.out.cell 1
  have q2 : W.cell? ⟨w.heap.size, 2, none⟩ = some (.slice a raws.length cap) := Hq.out.cell 2
  have r0 : W.cell? ⟨w.heap.size + 1, 0, none⟩ = some (.int .i64 0) := Hr.out.cell 0
  have fr0 : W.frozen? ⟨w.heap.size + 1, 0, none⟩ = false := Hr.out.free 0
  have r1 : W.cell? ⟨w.heap.size + 1, 1, none⟩ = some (.int .i64 0) := Hr.out.cell 1
  have fr1 : W.frozen? ⟨w.heap.size + 1, 1, none⟩ = false := Hr.out.free 1
  have r2 : W.cell? ⟨w.heap.size + 1, 2, none⟩ = some (.slice none 0 0) := Hr.out.cell 2
  have fr2 : W.frozen? ⟨w.heap.size + 1, 2, none⟩ = false := Hr.out.free 2
  go_enter Tryz.func8, Tryz.ntmps8
  go_wp2_with fail
  refine (check_any V D a raws.length cap 0 Hc.out _).mono ?_
  rintro e w0 ⟨rfl, hbn⟩
  clear q0 q1 q2
  clear r0 fr0 r1 fr1 r2 fr2
  replace Hq := Lib.hid (Hq.out.below hbn)
  replace Hr := Lib.hid (Hr.out.below hbn)
  have q0 : w0.cell? ⟨w.heap.size, 0, none⟩ = some (.int .i64 (V : Int)) := Hq.out.cell 0
  have q1 : w0.cell? ⟨w.heap.size, 1, none⟩ = some (.int .i64 (D : Int)) := Hq.out.cell 1
  have q2 : w0.cell? ⟨w.heap.size, 2, none⟩ = some (.slice a raws.length cap) := Hq.out.cell 2
  have r0 : w0.cell? ⟨w.heap.size + 1, 0, none⟩ = some (.int .i64 0) := Hr.out.cell 0
  have fr0 : w0.frozen? ⟨w.heap.size + 1, 0, none⟩ = false := Hr.out.free 0
  have r1 : w0.cell? ⟨w.heap.size + 1, 1, none⟩ = some (.int .i64 0) := Hr.out.cell 1
  have fr1 : w0.frozen? ⟨w.heap.size + 1, 1, none⟩ = false := Hr.out.free 1
  have r2 : w0.cell? ⟨w.heap.size + 1, 2, none⟩ = some (.slice none 0 0) := Hr.out.cell 2
  have fr2 : w0.frozen? ⟨w.heap.size + 1, 2, none⟩ = false := Hr.out.free 2
  replace Hb := Lib.hid (bnext Hb.out hbn); clear hbn
  go_wp2_with fail
  refine (Hbeg.out w0).mono ?_
  rintro e w1 ⟨bB, bm, rfl, ⟨hB, lB, hm, lm⟩, hbn⟩
  have lz1 := Hq.out.lt; have lz4 := Hr.out.lt
  replace Hq := Lib.hid (Hq.out.below hbn); replace Hr := Lib.hid (Hr.out.below hbn)
  replace Hb := Lib.hid (bnext Hb.out hbn)
  clear q0 q1 q2 r0 r1 r2 fr0 fr1 fr2 hbn
  have lB1 := hB.lt; have lm1 := hm.lt; have sz1 := Hb.out.size
  obtain ⟨W3, hW3⟩ : ∃ W3, w1.alloc (.cells #[.int .i64 (V : Int), .int .i64 D1, .slice (some ⟨bB, 0, none⟩) N N, .map (some bm)] 64) = W3 := ⟨_, rfl⟩
  have hb3 : Below w1.heap.size w1 W3 := by rw [← hW3]; exact (Below.refl _ _).alloc (Nat.le_refl _) _
  have Hx : Hid (Blk W3 w1.heap.size 64 [.int .i64 (V : Int), .int .i64 D1, .slice (some ⟨bB, 0, none⟩) N N, .map (some bm)]) := by rw [← hW3]; exact Blk.new _ _ _
  replace Hq := Lib.hid (Hq.out.below hb3); replace Hr := Lib.hid (Hr.out.below hb3)
  replace Hb := Lib.hid (bnext Hb.out hb3)
  have HB := Lib.hid (hB.below hb3); have Hm := Lib.hid (hm.below hb3)
  clear hB hm hb3
  have q0 : W3.cell? ⟨w.heap.size, 0, none⟩ = some (.int .i64 (V : Int)) := Hq.out.cell 0
  have q1 : W3.cell? ⟨w.heap.size, 1, none⟩ = some (.int .i64 (D : Int)) := Hq.out.cell 1
  have q2 : W3.cell? ⟨w.heap.size, 2, none⟩ = some (.slice a raws.length cap) := Hq.out.cell 2
  have x0 : W3.cell? ⟨w1.heap.size, 0, none⟩ = some (.int .i64 (V : Int)) := Hx.out.cell 0
  have x1 : W3.cell? ⟨w1.heap.size, 1, none⟩ = some (.int .i64 D1) := Hx.out.cell 1
  have x2 : W3.cell? ⟨w1.heap.size, 2, none⟩ = some (.slice (some ⟨bB, 0, none⟩) N N) := Hx.out.cell 2
  have x3 : W3.cell? ⟨w1.heap.size, 3, none⟩ = some (.map (some bm)) := Hx.out.cell 3
  have sz3 : W3.heap.size = w1.heap.size + 1 := by rw [← hW3]; simp
  have Hsz3 := Lib.hid sz3; clear sz3
  obtain ⟨cs, hcs⟩ : ∃ cs, raws.map dval = cs := ⟨_, rfl⟩
  obtain ⟨P, hP⟩ : ∃ P : Nat → Puts, (fun k => liftR (R.getD k []) (cs.getD k 0)) = P := ⟨_, rfl⟩
  have hPl : ∀ k, k < R.length → (P k).length ≤ 9 := by
    intro k hk
    have hm := Hmem.out _ (List.getElem_mem hk)
    have e : R.getD k [] = R[k] := by simp [hk]
    rw [← hP]
    dsimp only
    rw [liftR_len, e]; omega
  have hcv : ∀ k (h : k < raws.length), cs.getD k 0 = dval raws[k] := fun k h => by rw [← hcs]; simp [h]
  have hPs : ∀ k, k < R.length → ∀ p ∈ P k, Sm B p.2 := by
    intro k hk p hp
    have hk2 : k < raws.length := by rw [← HRl.out]; exact hk
    rw [← hP] at hp
    dsimp only at hp
    unfold liftR at hp
    rw [List.mem_map] at hp
    obtain ⟨t, _, rfl⟩ := hp
    rw [hcv k hk2]
    exact (Hfit.out _ (List.getElem_mem hk2)).2
  have hPr : ∀ k, k < R.length → ∀ p ∈ P k, p.1 ∈ R' := by
    intro k hk p hp
    have hm := Hmem.out _ (List.getElem_mem hk)
    have e : R.getD k [] = R[k] := by simp [hk]
    rw [← hP] at hp
    dsimp only at hp
    unfold liftR at hp
    rw [e, List.mem_map] at hp
    obtain ⟨t, ht, rfl⟩ := hp
    rw [List.mem_range] at ht
    exact Hmem2.out _ (by rw [inc_length]; exact hm.1) (by rw [inc_sum _ _ ht]; omega)
  have Htb : Hid (0 < w.heap.size) := HT.out.lt
  have hmade := smade_any (V : Int) D1 bB N bm 24 #[.pointer (some ⟨w1.heap.size, 0, none⟩)] (V : Int) (D : Int) a cap raws
    (fun k W => Blk W w1.heap.size 64 [.int .i64 (V : Int), .int .i64 D1, .slice (some ⟨bB, 0, none⟩) N N, .map (some bm)] ∧ Blk W bB 36 (dC (putAll f (List.replicate N 0) (putsTo P k))) ∧ Mp W bm N f ∧ Tab W) W3
    Hkl.out.symm (HA.out.below Hb.out) ?hab ?hac (enters_of Tryz.func24 (by kernel_rfl) rfl) ?hJb ?hcl ?hbB ⟨Hx.out, HB.out, Hm.out, HT.out.below Hb.out⟩
  rotate_right 5
  case hbB => have := Hsz3.out; omega
  case hab =>
    intro b o e
    have := Hal.out b o e; omega
  case hac =>
    intro b o e
    have := Hal.out b o e; have := Hb.out.size; omega
  case hJb =>
    rintro k W' W'' ⟨j1, j4, j5, j6⟩ hch
    have hs := Hsz3.out
    have := Htb.out; have := Hb.out.size
    exact ⟨hch.blk j1 (by omega), hch.blk j4 (by omega), hch.mp j5 (by omega), hch.tab j6 (by omega)⟩
  case hcl =>
    rintro k hk hk2 W' bM ⟨j1, j4, j5, j6⟩ hM hbM
    have hs := Hsz3.out
    have hkR : k < R.length := by rw [HRl.out]; exact hk2
    have hm := Hmem.out _ (List.getElem_mem hkR)
    have ek : (keysL (V : Int) (D : Int))[k] = (R[k]).map UInt8.ofNat := by
      have := Hkeys.out; simp only [this, List.getElem_map]
    rw [ek] at hM ⊢
    obtain ⟨ds, hds⟩ : ∃ ds, putAll f (List.replicate N 0) (putsTo P k) = ds := ⟨_, rfl⟩
    have hdl : ds.length = N := by rw [← hds, putAll_length, List.length_replicate]
    rw [hds] at j4
    have nmB : bm ≠ bB := by
      rintro rfl
      obtain ⟨D, ⟨es, clock, hb, _⟩, _⟩ := j5
      have h := j4.symm.trans hb; simp at h
    have hpl := putsTo_len P 9 R.length k (by omega) hPl
    have hkb : k * 9 ≤ 4608 := by have := Hlen.out; omega
    have hds2 : ∀ y ∈ ds, Sm (B + 4608) y := by
      rw [← hds]
      intro y hy
      have := putAll_sm (B := B) f (List.replicate N 0) (putsTo P k) (fun d hd => by rw [List.eq_of_mem_replicate hd]; exact Sm.zero _) (putsTo_all P R.length k (by omega) hPs) y hy
      exact this.mono (by omega)
    have hfx := Hfit.out _ (List.getElem_mem hk2)
    have hxl : (R[k].map UInt8.ofNat).length = V + 1 := by rw [List.length_map]; exact hm.1
    have hh := lift1_any (V : Int) D1 bB bm bM w1.heap.size (R[k].map UInt8.ofNat).length N (B + 4608) f ds (R[k].map UInt8.ofNat) raws[k].1 raws[k].2.1 raws[k].2.2 W' (by rw [hdl]; exact j1) j4 j5 hM (by omega)
      (fun u hu => by
        rw [List.mem_map] at hu
        obtain ⟨y, hy, rfl⟩ := hu
        have := mem_le_sum hy
        simp; omega)
      (fun t ht => by
        have ht2 : t < R[k].length := by simpa using ht
        have hmm : inc R[k] t ∈ R' := Hmem2.out _ (by rw [inc_length]; exact hm.1) (by rw [inc_sum _ _ ht2]; omega)
        obtain ⟨q, hq, _, e2⟩ := Hplace.out _ hmm
        have e3 := inc_bytes R[k] t ht2
        have e4 : (R[k].map UInt8.ofNat).getD t 0 = (R[k].map UInt8.ofNat)[t] := by simp [ht2]
        rw [e4] at e3
        rw [e3, e2, hdl, ← HRl'.out]; exact hq) (hfx.mono (by omega)) hds2 (by omega) j6 (by have := Htb.out; have := Hb.out.size; omega) (by have := Htb.out; omega)
    refine hh.mono ?_
    rintro e' w' ⟨he, hB', _, hch⟩
    refine ⟨he, ⟨hch.blk j1 (by omega), ?_, hch.mp j5 (by omega), hch.tab j6 (by have := Htb.out; have := Hb.out.size; omega)⟩, hch⟩
    rw [putsTo_succ, putAll_append, hds]
    have eP : P k = liftR R[k] (dval raws[k]) := by
      rw [← hP]
      dsimp only
      rw [hcv k hk2]
      simp [hkR]
    rw [eP]
    rw [List.length_map, liftTo_put f R[k] _ ds R[k].length (Nat.le_refl _)] at hB'
    exact hB'
  have Hmade := Lib.hid hmade; clear hmade
  go_wp2_with fail
  refine Hmade.out.mono ?_
  rintro e w4 ⟨rfl, ⟨_, hB4, _, _⟩, hch⟩
  have hs := Hsz3.out
  have hr4 : Blk w4 (w.heap.size + 1) 24 [.int .i64 0, .int .i64 0, .slice none 0 0] := hch.blk Hr.out (by omega)
  have r0 : w4.cell? ⟨w.heap.size + 1, 0, none⟩ = some (.int .i64 0) := hr4.cell 0
  have r1 : w4.cell? ⟨w.heap.size + 1, 1, none⟩ = some (.int .i64 0) := hr4.cell 1
  have r2 : w4.cell? ⟨w.heap.size + 1, 2, none⟩ = some (.slice none 0 0) := hr4.cell 2
  have fr0 := hr4.free 0; have fr1 := hr4.free 1; have fr2 := hr4.free 2
  have hfin : putAll f (List.replicate N 0) (putsTo P (keysL (V : Int) (D : Int)).length) = colL R' (liftP R cs) := by
    rw [Hkl.out, ← HRl.out]
    have e : putsTo P R.length = liftP R cs := by rw [← hP]; rfl
    rw [e, ← HRl'.out]
    exact putAll_zero R' Hnd.out f Hplace.out _ (by rw [← e]; exact putsTo_all P R.length R.length (Nat.le_refl _) hPr)
  rw [hfin] at hB4
  have HB4 := Lib.hid hB4; have Hch := Lib.hid hch
  have Hbz := Lib.hid (Hb.out.trans (Hch.out.below (by have := Hb.out.size; omega) (fun b e => by omega)))
  clear hB4 hch hr4 q0 q1 q2 x0 x1 x2 x3 hs
  go_wp2
  refine bodyPost_ret (v := .tuple #[.agg #[.int .i64 (V : Int), .int .i64 D1, .slice (some ⟨bB, 0, none⟩) N N], .int .i64 0]) (by simp [results, Tryz.results8, go_sem, r0, r1, r2]) rfl ⟨bB, rfl, ?_, by omega, ?_⟩
  · have := ((HB4.out.set_other ⟨w.heap.size + 1, 0, none⟩ (by dsimp only; omega) (.int .i64 (V : Int))).set_other ⟨w.heap.size + 1, 1, none⟩ (by dsimp only; omega) (.int .i64 D1)).set_other ⟨w.heap.size + 1, 2, none⟩ (by dsimp only; omega) (.slice (some ⟨bB, 0, none⟩) N N)
    rw [hcs]; exact this
  · exact (((Hbz.out.setCell (by dsimp only; omega) _).setCell (by dsimp only; omega) _).setCell (by dsimp only; omega) _)
end Go.Proofs.YtidjljldhdckiaaGreatDoor
