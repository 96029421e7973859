/- Package simp: Check. Package scast: has. -/
import Derived.Test.YtidjljldhdckiaaGreatDoorKProds
import Derived.Test.YtidjljldhdckiaaGreatDoorKDyad3
namespace Go.Proofs.YtidjljldhdckiaaGreatDoor
open Go.RowKit
attribute [local go_sem ↓] Go.wp_at_zero Go.wp_at_succ

/-- What Check answers: by the variables, the degree, and how many numbers there are. -/
def chk (v d : Int) (n : Nat) : Int := if ¬ (1 ≤ v ∧ v ≤ 8 ∧ 0 ≤ d ∧ d ≤ 20) then 1 else if 512 < cnt v.toNat d.toNat then 3 else if n = cnt v.toNat d.toNat then 0 else 1

theorem chk_ok {v d : Int} {n : Nat} (h : chk v d n = 0) : 1 ≤ v ∧ v ≤ 8 ∧ 0 ≤ d ∧ d ≤ 20 ∧ n = cnt v.toNat d.toNat ∧ n ≤ 512 := by
  unfold chk at h
  split at h
  · omega
  · split at h
    · omega
    · split at h
      · omega
      · omega

set_option maxHeartbeats 1000000 in
theorem check_any (v d : Int) (a : Option Addr) (n cap : Nat) (c : Int) (hc : chk v d n = c) (w : World) :
    Calls Tryz.prog 19 #[.agg #[.int .i64 v, .int .i64 d, .slice a n cap]] w fun e w' => e = .returned (.int .i64 c) ∧ Below w.heap.size w w' := by
  by_cases h : 1 ≤ v ∧ v ≤ 8 ∧ 0 ≤ d ∧ d ≤ 20
  · have h1 : decide (1 ≤ v ∧ v ≤ 8 ∧ 0 ≤ d ∧ d ≤ 20) = true := decide_eq_true h
    obtain ⟨V, rfl⟩ : ∃ V : Nat, v = V := ⟨v.toNat, by omega⟩
    obtain ⟨D, rfl⟩ : ∃ D : Nat, d = D := ⟨d.toNat, by omega⟩
    have hw1 : IntKind.i64.wrap ((V : Int) + 1) = ((V + 1 : Nat) : Int) := by rw [IntKind.wrap_i64]; omega
    obtain ⟨V1, hV1⟩ : ∃ V1, ((V + 1 : Nat) : Int) = V1 := ⟨_, rfl⟩
    obtain ⟨M, hM⟩ : ∃ M, ((min (cnt (V + 1 - 1) D) 513 : Nat) : Int) = M := ⟨_, rfl⟩
    have Hmany : Hid (∀ W, Calls Tryz.prog 32 #[.int .i64 V1, .int .i64 (D : Int)] W fun e w' => e = .returned (.int .i64 M) ∧ Below W.heap.size W w') := fun W => by
      rw [← hV1, ← hM]
      exact (many_any (V + 1) D W (by omega) (by omega) (by omega)).mono (fun e w' h => ⟨h.1, by rw [h.2]; exact Below.refl _ _⟩)
    rw [hV1] at hw1
    unfold chk at hc
    rw [if_neg (by simp only [Decidable.not_not]; exact h)] at hc
    simp only [Int.toNat_natCast] at hc
    rw [Nat.add_sub_cancel] at hM
    have Hmay := Lib.hid (may_any V D)
    by_cases hb : 512 < cnt V D
    · have hM2 : M = 513 := by omega
      rw [if_pos hb] at hc
      subst hM2; subst hc
      clear hM h
      go_enter Tryz.func19, Tryz.ntmps19
      have Hb : Hid (Below w.heap.size w w) := Below.refl _ _
      go_wp2_with fail
      first | refine wp_world (fun W => Blk W (w.heap.size) 24 [.int .i64 V, .int .i64 D, .slice a n cap] ∧ Below w.heap.size w W) ?hR ?_ | refine calls_world (fun W => Blk W (w.heap.size) 24 [.int .i64 V, .int .i64 D, .slice a n cap] ∧ Below w.heap.size w W) ?hR ?_
      case hR => exact ⟨(Blk.newAt w _ _ (b := w.heap.size) rfl), ((Below.refl _ _).alloc (Nat.le_refl _) _)⟩
      rintro W ⟨qx, hbn⟩
      have Hx := Lib.hid qx; clear qx
      have x0 : W.cell? ⟨w.heap.size, 0, none⟩ = some (.int .i64 V) := Hx.out.cell 0
      have x1 : W.cell? ⟨w.heap.size, 1, none⟩ = some (.int .i64 D) := Hx.out.cell 1
      have x2 : W.cell? ⟨w.heap.size, 2, none⟩ = some (.slice a n cap) := Hx.out.cell 2
      replace Hb := Lib.hid (bnext Hb.out hbn); clear hbn
      go_wp2_with fail
      refine (Hmay.out W).mono ?_
      rintro e w1 ⟨rfl, rfl⟩
      rw [h1]
      go_wp2_with fail
      refine (Hmany.out _).mono ?_
      rintro e w2 ⟨rfl, hbn⟩
      clear x0 x1 x2
      replace Hx := Lib.hid (Hx.out.below hbn)
      have x0 : w2.cell? ⟨w.heap.size, 0, none⟩ = some (.int .i64 V) := Hx.out.cell 0
      have x1 : w2.cell? ⟨w.heap.size, 1, none⟩ = some (.int .i64 D) := Hx.out.cell 1
      have x2 : w2.cell? ⟨w.heap.size, 2, none⟩ = some (.slice a n cap) := Hx.out.cell 2
      replace Hb := Lib.hid (bnext Hb.out hbn); clear hbn
      go_wp2
      go_ret
      exact ⟨rfl, Hb.out⟩
    · have hM2 : M = (cnt V D : Int) := by omega
      have hMl : M ≤ 512 := by omega
      rw [if_neg hb] at hc
      by_cases he : n = cnt V D
      · rw [if_pos he] at hc
        subst hc
        have hnM : (n : Int) = M := by omega
        clear hM h hM2 hb he
        go_enter Tryz.func19, Tryz.ntmps19
        have Hb : Hid (Below w.heap.size w w) := Below.refl _ _
        go_wp2_with fail
        first | refine wp_world (fun W => Blk W (w.heap.size) 24 [.int .i64 V, .int .i64 D, .slice a n cap] ∧ Below w.heap.size w W) ?hR ?_ | refine calls_world (fun W => Blk W (w.heap.size) 24 [.int .i64 V, .int .i64 D, .slice a n cap] ∧ Below w.heap.size w W) ?hR ?_
        case hR => exact ⟨(Blk.newAt w _ _ (b := w.heap.size) rfl), ((Below.refl _ _).alloc (Nat.le_refl _) _)⟩
        rintro W ⟨qx, hbn⟩
        have Hx := Lib.hid qx; clear qx
        have x0 : W.cell? ⟨w.heap.size, 0, none⟩ = some (.int .i64 V) := Hx.out.cell 0
        have x1 : W.cell? ⟨w.heap.size, 1, none⟩ = some (.int .i64 D) := Hx.out.cell 1
        have x2 : W.cell? ⟨w.heap.size, 2, none⟩ = some (.slice a n cap) := Hx.out.cell 2
        replace Hb := Lib.hid (bnext Hb.out hbn); clear hbn
        go_wp2_with fail
        refine (Hmay.out W).mono ?_
        rintro e w1 ⟨rfl, rfl⟩
        rw [h1]
        go_wp2_with fail
        refine (Hmany.out _).mono ?_
        rintro e w2 ⟨rfl, hbn⟩
        clear x0 x1 x2
        replace Hx := Lib.hid (Hx.out.below hbn)
        have x0 : w2.cell? ⟨w.heap.size, 0, none⟩ = some (.int .i64 V) := Hx.out.cell 0
        have x1 : w2.cell? ⟨w.heap.size, 1, none⟩ = some (.int .i64 D) := Hx.out.cell 1
        have x2 : w2.cell? ⟨w.heap.size, 2, none⟩ = some (.slice a n cap) := Hx.out.cell 2
        replace Hb := Lib.hid (bnext Hb.out hbn); clear hbn
        go_wp2_with fail
        refine wp_region_plan (fun w' => w'.cell? ⟨w.heap.size, 0, none⟩ = some (.int .i64 V) ∧ w'.cell? ⟨w.heap.size, 1, none⟩ = some (.int .i64 D) ∧ w'.cell? ⟨w.heap.size, 2, none⟩ = some (.slice a n cap)) (fun i => Nat.blt i 100000) [(0, true), (1, true), (2, true), (3, true), (4, true), (5, true), (6, true), (7, true), (8, false), (9, true), (10, true)] (by kernel_rfl) (by kernel_rfl) rfl (by kernel_rfl) (fun o c a v w => by cases o.dst <;> exact id) ⟨x0, x1, x2⟩ ?_
        refine planT rfl rfl (v := ?_) (fun w' hw' => ?_) ?_; rotate_left; focus (go_simp; try with_reducible rfl)
        try simp only [Act.put, List.setIfInBounds_toArray, List.set_cons_zero, List.set_cons_succ]
        refine planT rfl rfl (v := ?_) (fun w' hw' => ?_) ?_; rotate_left; focus (obtain ⟨q0, q1, q2⟩ := hw'; go_simp; try with_reducible rfl)
        try simp only [Act.put, List.setIfInBounds_toArray, List.set_cons_zero, List.set_cons_succ]
        refine planT rfl rfl (v := ?_) (fun w' hw' => ?_) ?_; rotate_left; focus (go_simp; try with_reducible rfl)
        try simp only [Act.put, List.setIfInBounds_toArray, List.set_cons_zero, List.set_cons_succ]
        refine planT rfl rfl (v := ?_) (fun w' hw' => ?_) ?_; rotate_left; focus (go_simp; try with_reducible rfl)
        try simp only [Act.put, List.setIfInBounds_toArray, List.set_cons_zero, List.set_cons_succ]
        refine planT rfl rfl (v := ?_) (fun w' hw' => ?_) ?_; rotate_left; focus (obtain ⟨q0, q1, q2⟩ := hw'; go_simp; try with_reducible rfl)
        try simp only [Act.put, List.setIfInBounds_toArray, List.set_cons_zero, List.set_cons_succ]
        refine planT rfl rfl (v := ?_) (fun w' hw' => ?_) ?_; rotate_left; focus (go_simp; try with_reducible rfl)
        try simp only [Act.put, List.setIfInBounds_toArray, List.set_cons_zero, List.set_cons_succ]
        refine planT rfl rfl (v := ?_) (fun w' hw' => ?_) ?_; rotate_left; focus (go_simp; try with_reducible rfl)
        try simp only [Act.put, List.setIfInBounds_toArray, List.set_cons_zero, List.set_cons_succ]
        refine planT rfl rfl (v := ?_) (fun w' hw' => ?_) ?_; rotate_left; focus (obtain ⟨q0, q1, q2⟩ := hw'; go_simp; try with_reducible rfl)
        try simp only [Act.put, List.setIfInBounds_toArray, List.set_cons_zero, List.set_cons_succ]
        refine planF rfl rfl (fun K hK => ?_)
        go_simp
        with_reducible refine (Hmany.out _).mono ?_
        rintro e w3 ⟨rfl, hq⟩
        have hbn : Below w2.heap.size w2 w3 := (by first | exact hq | exact bundrew hq); clear hq
        clear x0 x1 x2
        replace Hx := Lib.hid (Hx.out.below hbn)
        have x0 : w3.cell? ⟨w.heap.size, 0, none⟩ = some (.int .i64 V) := Hx.out.cell 0
        have x1 : w3.cell? ⟨w.heap.size, 1, none⟩ = some (.int .i64 D) := Hx.out.cell 1
        have x2 : w3.cell? ⟨w.heap.size, 2, none⟩ = some (.slice a n cap) := Hx.out.cell 2
        replace Hb := Lib.hid (bnext Hb.out hbn); clear hbn
        refine hK _ _ (fun _ => ⟨x0, x1, x2⟩) ?_; clear hK K
        try simp only [Act.put, List.setIfInBounds_toArray, List.set_cons_zero, List.set_cons_succ]
        refine planT rfl rfl (v := ?_) (fun w' hw' => ?_) ?_; rotate_left; focus (go_simp; try with_reducible rfl)
        try simp only [Act.put, List.setIfInBounds_toArray, List.set_cons_zero, List.set_cons_succ]
        refine planT rfl rfl (v := ?_) (fun w' hw' => ?_) ?_; rotate_left; focus (go_simp; try with_reducible rfl)
        try simp only [Act.put, List.setIfInBounds_toArray, List.set_cons_zero, List.set_cons_succ]
        simp only [wpPlan]
        go_wp2
        go_ret
        exact ⟨rfl, Hb.out⟩
      · rw [if_neg he] at hc
        subst hc
        have hnM : ¬ (n : Int) = M := by omega
        have hnM2 : ((n : Int) != M) = true := by simp [hnM]
        clear hM h hM2 hb he
        go_enter Tryz.func19, Tryz.ntmps19
        have Hb : Hid (Below w.heap.size w w) := Below.refl _ _
        go_wp2_with fail
        first | refine wp_world (fun W => Blk W (w.heap.size) 24 [.int .i64 V, .int .i64 D, .slice a n cap] ∧ Below w.heap.size w W) ?hR ?_ | refine calls_world (fun W => Blk W (w.heap.size) 24 [.int .i64 V, .int .i64 D, .slice a n cap] ∧ Below w.heap.size w W) ?hR ?_
        case hR => exact ⟨(Blk.newAt w _ _ (b := w.heap.size) rfl), ((Below.refl _ _).alloc (Nat.le_refl _) _)⟩
        rintro W ⟨qx, hbn⟩
        have Hx := Lib.hid qx; clear qx
        have x0 : W.cell? ⟨w.heap.size, 0, none⟩ = some (.int .i64 V) := Hx.out.cell 0
        have x1 : W.cell? ⟨w.heap.size, 1, none⟩ = some (.int .i64 D) := Hx.out.cell 1
        have x2 : W.cell? ⟨w.heap.size, 2, none⟩ = some (.slice a n cap) := Hx.out.cell 2
        replace Hb := Lib.hid (bnext Hb.out hbn); clear hbn
        go_wp2_with fail
        refine (Hmay.out W).mono ?_
        rintro e w1 ⟨rfl, rfl⟩
        rw [h1]
        go_wp2_with fail
        refine (Hmany.out _).mono ?_
        rintro e w2 ⟨rfl, hbn⟩
        clear x0 x1 x2
        replace Hx := Lib.hid (Hx.out.below hbn)
        have x0 : w2.cell? ⟨w.heap.size, 0, none⟩ = some (.int .i64 V) := Hx.out.cell 0
        have x1 : w2.cell? ⟨w.heap.size, 1, none⟩ = some (.int .i64 D) := Hx.out.cell 1
        have x2 : w2.cell? ⟨w.heap.size, 2, none⟩ = some (.slice a n cap) := Hx.out.cell 2
        replace Hb := Lib.hid (bnext Hb.out hbn); clear hbn
        go_wp2_with fail
        refine wp_region_plan (fun w' => w'.cell? ⟨w.heap.size, 0, none⟩ = some (.int .i64 V) ∧ w'.cell? ⟨w.heap.size, 1, none⟩ = some (.int .i64 D) ∧ w'.cell? ⟨w.heap.size, 2, none⟩ = some (.slice a n cap)) (fun i => Nat.blt i 100000) [(0, true), (1, true), (2, true), (3, true), (4, true), (5, true), (6, true), (7, true), (8, false), (9, true), (10, true)] (by kernel_rfl) (by kernel_rfl) rfl (by kernel_rfl) (fun o c a v w => by cases o.dst <;> exact id) ⟨x0, x1, x2⟩ ?_
        refine planT rfl rfl (v := ?_) (fun w' hw' => ?_) ?_; rotate_left; focus (go_simp; try with_reducible rfl)
        try simp only [Act.put, List.setIfInBounds_toArray, List.set_cons_zero, List.set_cons_succ]
        refine planT rfl rfl (v := ?_) (fun w' hw' => ?_) ?_; rotate_left; focus (obtain ⟨q0, q1, q2⟩ := hw'; go_simp; try with_reducible rfl)
        try simp only [Act.put, List.setIfInBounds_toArray, List.set_cons_zero, List.set_cons_succ]
        refine planT rfl rfl (v := ?_) (fun w' hw' => ?_) ?_; rotate_left; focus (go_simp; try with_reducible rfl)
        try simp only [Act.put, List.setIfInBounds_toArray, List.set_cons_zero, List.set_cons_succ]
        refine planT rfl rfl (v := ?_) (fun w' hw' => ?_) ?_; rotate_left; focus (go_simp; try with_reducible rfl)
        try simp only [Act.put, List.setIfInBounds_toArray, List.set_cons_zero, List.set_cons_succ]
        refine planT rfl rfl (v := ?_) (fun w' hw' => ?_) ?_; rotate_left; focus (obtain ⟨q0, q1, q2⟩ := hw'; go_simp; try with_reducible rfl)
        try simp only [Act.put, List.setIfInBounds_toArray, List.set_cons_zero, List.set_cons_succ]
        refine planT rfl rfl (v := ?_) (fun w' hw' => ?_) ?_; rotate_left; focus (go_simp; try with_reducible rfl)
        try simp only [Act.put, List.setIfInBounds_toArray, List.set_cons_zero, List.set_cons_succ]
        refine planT rfl rfl (v := ?_) (fun w' hw' => ?_) ?_; rotate_left; focus (go_simp; try with_reducible rfl)
        try simp only [Act.put, List.setIfInBounds_toArray, List.set_cons_zero, List.set_cons_succ]
        refine planT rfl rfl (v := ?_) (fun w' hw' => ?_) ?_; rotate_left; focus (obtain ⟨q0, q1, q2⟩ := hw'; go_simp; try with_reducible rfl)
        try simp only [Act.put, List.setIfInBounds_toArray, List.set_cons_zero, List.set_cons_succ]
        refine planF rfl rfl (fun K hK => ?_)
        go_simp
        with_reducible refine (Hmany.out _).mono ?_
        rintro e w3 ⟨rfl, hq⟩
        have hbn : Below w2.heap.size w2 w3 := (by first | exact hq | exact bundrew hq); clear hq
        clear x0 x1 x2
        replace Hx := Lib.hid (Hx.out.below hbn)
        have x0 : w3.cell? ⟨w.heap.size, 0, none⟩ = some (.int .i64 V) := Hx.out.cell 0
        have x1 : w3.cell? ⟨w.heap.size, 1, none⟩ = some (.int .i64 D) := Hx.out.cell 1
        have x2 : w3.cell? ⟨w.heap.size, 2, none⟩ = some (.slice a n cap) := Hx.out.cell 2
        replace Hb := Lib.hid (bnext Hb.out hbn); clear hbn
        refine hK _ _ (fun _ => ⟨x0, x1, x2⟩) ?_; clear hK K
        try simp only [Act.put, List.setIfInBounds_toArray, List.set_cons_zero, List.set_cons_succ]
        refine planT rfl rfl (v := ?_) (fun w' hw' => ?_) ?_; rotate_left; focus (go_simp; try with_reducible rfl)
        try simp only [Act.put, List.setIfInBounds_toArray, List.set_cons_zero, List.set_cons_succ]
        refine planT rfl rfl (v := ?_) (fun w' hw' => ?_) ?_; rotate_left; focus (go_simp; try with_reducible rfl)
        try simp only [Act.put, List.setIfInBounds_toArray, List.set_cons_zero, List.set_cons_succ]
        simp only [wpPlan]
        go_wp2
        go_ret
        exact ⟨rfl, Hb.out⟩
  · have h1 : decide (1 ≤ v ∧ v ≤ 8 ∧ 0 ≤ d ∧ d ≤ 20) = false := decide_eq_false h
    unfold chk at hc
    rw [if_pos h] at hc
    subst hc
    have Hmay := Lib.hid (may_any v d)
    clear h
    go_enter Tryz.func19, Tryz.ntmps19
    have Hb : Hid (Below w.heap.size w w) := Below.refl _ _
    go_wp2_with fail
    first | refine wp_world (fun W => Blk W (w.heap.size) 24 [.int .i64 v, .int .i64 d, .slice a n cap] ∧ Below w.heap.size w W) ?hR ?_ | refine calls_world (fun W => Blk W (w.heap.size) 24 [.int .i64 v, .int .i64 d, .slice a n cap] ∧ Below w.heap.size w W) ?hR ?_
    case hR => exact ⟨(Blk.newAt w _ _ (b := w.heap.size) rfl), ((Below.refl _ _).alloc (Nat.le_refl _) _)⟩
    rintro W ⟨qx, hbn⟩
    have Hx := Lib.hid qx; clear qx
    have x0 : W.cell? ⟨w.heap.size, 0, none⟩ = some (.int .i64 v) := Hx.out.cell 0
    have x1 : W.cell? ⟨w.heap.size, 1, none⟩ = some (.int .i64 d) := Hx.out.cell 1
    have x2 : W.cell? ⟨w.heap.size, 2, none⟩ = some (.slice a n cap) := Hx.out.cell 2
    replace Hb := Lib.hid (bnext Hb.out hbn); clear hbn
    go_wp2_with fail
    refine (Hmay.out W).mono ?_
    rintro e w1 ⟨rfl, rfl⟩
    rw [h1]
    go_wp2
    go_ret
    exact ⟨rfl, Hb.out⟩

theorem has_any (v d : Int) (a : Option Addr) (n cap : Nat) (j : Int) (w : World) :
    Calls Tryz.prog 20 #[.agg #[.int .i64 v, .int .i64 d, .slice a n cap], .int .i64 j] w fun e w' => e = .returned (.bool (decide (0 ≤ j ∧ j ≤ v))) ∧ Below w.heap.size w w' := by
  go_enter Tryz.func20, Tryz.ntmps20
  by_cases h : 0 ≤ j
  · go_wp2
    go_ret
    exact ⟨by simp [h], (Below.refl _ _).alloc (Nat.le_refl _) _⟩
  · go_wp2
    go_ret
    exact ⟨by simp; omega, (Below.refl _ _).alloc (Nat.le_refl _) _⟩
end Go.Proofs.YtidjljldhdckiaaGreatDoor
