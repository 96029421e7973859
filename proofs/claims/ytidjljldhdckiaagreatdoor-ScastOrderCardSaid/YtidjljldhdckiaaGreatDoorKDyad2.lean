/- Package dyad, on: level, Add, Sub, Mul, Cmp, Abs. -/
import Derived.Test.YtidjljldhdckiaaGreatDoorKDyad1
namespace Go.Proofs.YtidjljldhdckiaaGreatDoor
open Go.RowKit
attribute [local go_sem ↓] Go.wp_at_zero Go.wp_at_succ

theorem Tab.drew {w : World} (h : Tab w) : Tab w.drew := h
theorem Tab.alloc {w : World} (h : Tab w) (o : Obj) : Tab (w.alloc o) := fun j hj => cell_new (h j hj)
/-- Shifted, to the left or to the right. -/
def shz (v k : Int) : Int := if 0 ≤ k then v * 2 ^ k.toNat else v / 2 ^ (-k).toNat

theorem wShift_as (s : Bool) (l : List UInt8) (k Z : Int) (hZ : shz (iv s l) k = Z) (w : World) (hl : l.length ≤ 34359738368) (hk : -549755813888 ≤ k ∧ k ≤ 549755813888) (hT : Tab w) :
    Calls Tryz.prog 69 #[.agg #[.bool s, .string (bs l)], .int .i64 k] w fun e w' => e = .returned (intV Z) ∧ Below w.heap.size w w' := by
  subst hZ
  unfold shz
  split
  · rename_i h
    have := wShl_any s l k.toNat w (by omega) (by omega)
    rw [Int.toNat_of_nonneg h] at this
    exact this
  · rename_i h
    have := wShr_any s l (-k).toNat w hl (by omega) (by omega) hT
    rw [Int.toNat_of_nonneg (by omega), Int.neg_neg] at this
    exact this

set_option maxHeartbeats 1000000 in
theorem on_any (s : Bool) (l : List UInt8) (e g Z : Int) (hZ : shz (iv s l) (e - g) = Z) (w : World) (hl : l.length ≤ 34359738368) (hk : -549755813888 ≤ e - g ∧ e - g ≤ 549755813888) (hT : Tab w) :
    Calls Tryz.prog 70 #[.int .i64 g, .agg #[.bool s, .string (bs l), .int .i64 e]] w fun e w' => e = .returned (intV Z) ∧ Below w.heap.size w w' := by
  obtain ⟨k, hk0⟩ : ∃ k, e - g = k := ⟨_, rfl⟩
  have hwe : IntKind.i64.wrap (e - g) = k := by rw [IntKind.wrap_i64]; omega
  rw [hk0] at hZ hk
  have HZ := Lib.hid hZ; clear hZ hk0
  go_enter Tryz.func70, Tryz.ntmps70
  have Hb : Hid (Below w.heap.size w w) := Below.refl _ _
  go_wp2_with fail
  first | refine wp_world (fun W => Blk W (w.heap.size) 36 [.bool s, .string (bs l), .int .i64 e] ∧ Blk W (w.heap.size + 1) 34 [.bool false, .string (bs [])] ∧ Below w.heap.size w W) ?hR ?_ | refine calls_world (fun W => Blk W (w.heap.size) 36 [.bool s, .string (bs l), .int .i64 e] ∧ Blk W (w.heap.size + 1) 34 [.bool false, .string (bs [])] ∧ Below w.heap.size w W) ?hR ?_
  case hR => exact ⟨((Blk.newAt w _ _ (b := w.heap.size) rfl).alloc _), (Blk.newAt (w.alloc _) _ _ (b := w.heap.size + 1) (by simp)), (((Below.refl _ _).alloc (Nat.le_refl _) _).alloc (by simp <;> omega) _)⟩
  rintro W ⟨qx, qr, hbn⟩
  have Hx := Lib.hid qx; clear qx
  have Hr := Lib.hid qr; clear qr
  have x0 : W.cell? ⟨w.heap.size, 0, none⟩ = some (.bool s) := Hx.out.cell 0
  have x1 : W.cell? ⟨w.heap.size, 1, none⟩ = some (.string (bs l)) := Hx.out.cell 1
  have x2 : W.cell? ⟨w.heap.size, 2, none⟩ = some (.int .i64 e) := Hx.out.cell 2
  have r0 : W.cell? ⟨w.heap.size + 1, 0, none⟩ = some (.bool false) := Hr.out.cell 0
  have fr0 : W.frozen? ⟨w.heap.size + 1, 0, none⟩ = false := Hr.out.free 0
  have r1 : W.cell? ⟨w.heap.size + 1, 1, none⟩ = some (.string (bs [])) := Hr.out.cell 1
  have fr1 : W.frozen? ⟨w.heap.size + 1, 1, none⟩ = false := Hr.out.free 1
  replace Hb := Lib.hid (bnext Hb.out hbn); clear hbn
  have HT := Lib.hid (hT.below Hb.out)
  go_wp2_with fail
  refine (wShift_as s l k Z HZ.out _ hl hk HT.out).mono ?_
  rintro e w1 ⟨rfl, hbn⟩
  clear x0 x1 x2
  clear r0 fr0 r1 fr1
  replace Hx := Lib.hid (Hx.out.below hbn)
  replace Hr := Lib.hid (Hr.out.below hbn)
  have x0 : w1.cell? ⟨w.heap.size, 0, none⟩ = some (.bool s) := Hx.out.cell 0
  have x1 : w1.cell? ⟨w.heap.size, 1, none⟩ = some (.string (bs l)) := Hx.out.cell 1
  have x2 : w1.cell? ⟨w.heap.size, 2, none⟩ = some (.int .i64 e) := Hx.out.cell 2
  have r0 : w1.cell? ⟨w.heap.size + 1, 0, none⟩ = some (.bool false) := Hr.out.cell 0
  have fr0 : w1.frozen? ⟨w.heap.size + 1, 0, none⟩ = false := Hr.out.free 0
  have r1 : w1.cell? ⟨w.heap.size + 1, 1, none⟩ = some (.string (bs [])) := Hr.out.cell 1
  have fr1 : w1.frozen? ⟨w.heap.size + 1, 1, none⟩ = false := Hr.out.free 1
  replace Hb := Lib.hid (bnext Hb.out hbn); clear hbn
  go_wp2
  refine bodyPost_ret (v := intV Z) (by simp [results, Tryz.results70, go_sem, r0, r1]) rfl ⟨rfl, ?_⟩
  (repeat first | exact Hb.out | (refine Below.setCell ?_ (by have := Hb.out.size; first | (dsimp only; omega) | (show _ ≤ _; omega) | (simp <;> omega)) _) | (refine Below.alloc ?_ (by have := Hb.out.size; simp <;> omega) _) | refine Below.drew ?_)

/-- The level of two numbers: the scale, and both on it. -/
def lvG (A B : Dyadic) : Int := if A = 0 then dE B else if B = 0 then dE A else min (dE A) (dE B)
theorem owp_parts (A : Dyadic) : A = Dyadic.ofIntWithPrec (dN A) (-(dE A)) := by
  have := dval_canon A
  unfold dval canon at this
  simp only [iv_int] at this
  exact this.symm
theorem owp_on (A : Dyadic) (g : Int) (h : A = 0 ∨ g ≤ dE A) : A = Dyadic.ofIntWithPrec (shz (dN A) (dE A - g)) (-g) := by
  rcases h with h | h
  · subst h
    have : shz (dN 0) (dE 0 - g) = 0 := by unfold shz; rw [dN_zero]; split <;> simp
    rw [this, owp_zero]
  · unfold shz
    rw [if_pos (by omega)]
    have := owp_shift (dN A) (dE A - g).toNat (-(dE A))
    rw [show -(dE A) + ((dE A - g).toNat : Int) = -g by omega] at this
    rw [this]
    exact owp_parts A
theorem lvG_le (A B : Dyadic) : (A = 0 ∨ lvG A B ≤ dE A) ∧ (B = 0 ∨ lvG A B ≤ dE B) := by
  unfold lvG
  split
  · exact ⟨.inl ‹_›, .inr (by omega)⟩
  · split
    · exact ⟨.inr (by omega), .inl ‹_›⟩
    · exact ⟨.inr (by omega), .inr (by omega)⟩

theorem numV_eq {A : Dyadic} : A = 0 ∨ ((nt (dN A).natAbs) ≠ [] ∧ A ≠ 0) := by
  by_cases h : A = 0
  · exact .inl h
  · refine .inr ⟨?_, h⟩
    intro h2
    apply h
    have : (dN A).natAbs = 0 := by rw [← nv_nt (dN A).natAbs, h2]; rfl
    rw [owp_parts A, show dN A = 0 by omega, owp_zero]

theorem Ok.parts {x : Raw} (h : Ok x) : (nt (dN (dval x)).natAbs).length ≤ 1073741824 ∧ -4294967296 ≤ dE (dval x) ∧ dE (dval x) ≤ 4294967296 := by
  obtain ⟨B, hB, hs⟩ : ∃ B, B ≤ 4294967296 ∧ Sm B (dval x) := ⟨4294967296, Nat.le_refl _, h.sm⟩
  obtain ⟨h1, h2, h3⟩ := hs.parts
  exact ⟨len_of_bits h1 (by omega), by clear h1; omega, by clear h1; omega⟩

set_option maxHeartbeats 4000000 in
set_option maxRecDepth 100000 in
theorem level_any (s : Bool) (l : List UInt8) (e : Int) (t : Bool) (m : List UInt8) (f : Int) (A B : Dyadic) (hA : dval (s, l, e) = A) (hB : dval (t, m, f) = B) (g X Y : Int) (hg : lvG A B = g) (hX : shz (dN A) (dE A - g) = X) (hY : shz (dN B) (dE B - g) = Y)
    (w : World) (hx : Ok (s, l, e)) (hy : Ok (t, m, f)) (hT : Tab w) :
    Calls Tryz.prog 49 #[.agg #[.bool s, .string (bs l), .int .i64 e], .agg #[.bool t, .string (bs m), .int .i64 f]] w fun ex w' => ex = .returned (.agg #[.int .i64 g, .bool (sgnB X), .string (bs (nt X.natAbs)), .bool (sgnB Y), .string (bs (nt Y.natAbs))]) ∧ Below w.heap.size w w' := by
  have pA := hx.parts; rw [hA] at pA
  have pB := hy.parts; rw [hB] at pB
  have HA := Lib.hid hA; have HB := Lib.hid hB; clear hA hB
  obtain ⟨a, ha⟩ : ∃ a, nt (dN A).natAbs = a := ⟨_, rfl⟩
  obtain ⟨p, hp⟩ : ∃ p, sgnB (dN A) = p := ⟨_, rfl⟩
  obtain ⟨i, hi⟩ : ∃ i, dE A = i := ⟨_, rfl⟩
  obtain ⟨b, hb⟩ : ∃ b, nt (dN B).natAbs = b := ⟨_, rfl⟩
  obtain ⟨q, hq⟩ : ∃ q, sgnB (dN B) = q := ⟨_, rfl⟩
  obtain ⟨j, hj⟩ : ∃ j, dE B = j := ⟨_, rfl⟩
  have hX2 : shz (iv p a) (i - g) = X := by rw [← hp, ← ha, iv_int, ← hi]; exact hX
  have hY2 : shz (iv q b) (j - g) = Y := by rw [← hq, ← hb, iv_int, ← hj]; exact hY
  have Hform1 : Hid (∀ W, Tab W → Calls Tryz.prog 27 #[.agg #[.bool s, .string (bs l), .int .i64 e]] W fun ex w' => ex = .returned (.agg #[.bool p, .string (bs a), .int .i64 i]) ∧ Below W.heap.size W w') := by
    intro W hW; rw [← hp, ← ha, ← hi]; exact form_any s l e A HA.out W hx hW
  have Hform2 : Hid (∀ W, Tab W → Calls Tryz.prog 27 #[.agg #[.bool t, .string (bs m), .int .i64 f]] W fun ex w' => ex = .returned (.agg #[.bool q, .string (bs b), .int .i64 j]) ∧ Below W.heap.size W w') := by
    intro W hW; rw [← hq, ← hb, ← hj]; exact form_any t m f B HB.out W hy hW
  have hlv : (A = 0 ∧ g = j) ∨ (A ≠ 0 ∧ B = 0 ∧ g = i) ∨ (A ≠ 0 ∧ B ≠ 0 ∧ g = min i j) := by
    rw [← hg]; unfold lvG
    by_cases h1 : A = 0
    · simp [h1, hj]
    · by_cases h2 : B = 0 <;> simp [h1, h2, hi, hj]
  rw [ha, hi] at pA; rw [hb, hj] at pB
  have zA : A = 0 → (p = false ∧ a = [] ∧ i = 0) := by rintro rfl; exact ⟨hp.symm, ha.symm, hi.symm⟩
  have zB : B = 0 → (q = false ∧ b = [] ∧ j = 0) := by rintro rfl; exact ⟨hq.symm, hb.symm, hj.symm⟩
  have nA : A ≠ 0 → a ≠ [] := by intro h; rw [← ha]; rcases numV_eq (A := A) with h2 | h2; exact absurd h2 h; exact h2.1
  have nB : B ≠ 0 → b ≠ [] := by intro h; rw [← hb]; rcases numV_eq (A := B) with h2 | h2; exact absurd h2 h; exact h2.1
  have hgi : -549755813888 ≤ i - g ∧ i - g ≤ 549755813888 := by rcases hlv with ⟨_, h⟩ | ⟨_, _, h⟩ | ⟨_, _, h⟩ <;> omega
  have hgj : -549755813888 ≤ j - g ∧ j - g ≤ 549755813888 := by rcases hlv with ⟨_, h⟩ | ⟨_, _, h⟩ | ⟨_, _, h⟩ <;> omega
  have HX := Lib.hid hX2; have HY := Lib.hid hY2
  have La : Hid (a.length ≤ 34359738368) := by show _ ≤ _; omega
  have Lb : Hid (b.length ≤ 34359738368) := by show _ ≤ _; omega
  have Hgi := Lib.hid hgi; have Hgj := Lib.hid hgj
  clear hX2 hY2 hX hY hg ha hp hi hb hq hj hgi hgj HA HB hx hy
  go_enter Tryz.func49, Tryz.ntmps49
  have Hb : Hid (Below w.heap.size w w) := Below.refl _ _
  go_wp2_with fail
  first | refine wp_world (fun W => Blk W (w.heap.size) 36 [.bool s, .string (bs l), .int .i64 e] ∧ Blk W (w.heap.size + 1) 36 [.bool t, .string (bs m), .int .i64 f] ∧ Blk W (w.heap.size + 1 + 1) 99 [.int .i64 0, .bool false, .string (bs []), .bool false, .string (bs [])] ∧ Below w.heap.size w W) ?hR ?_ | refine calls_world (fun W => Blk W (w.heap.size) 36 [.bool s, .string (bs l), .int .i64 e] ∧ Blk W (w.heap.size + 1) 36 [.bool t, .string (bs m), .int .i64 f] ∧ Blk W (w.heap.size + 1 + 1) 99 [.int .i64 0, .bool false, .string (bs []), .bool false, .string (bs [])] ∧ Below w.heap.size w W) ?hR ?_
  case hR => exact ⟨(((Blk.newAt w _ _ (b := w.heap.size) rfl).alloc _).alloc _), ((Blk.newAt (w.alloc _) _ _ (b := w.heap.size + 1) (by simp)).alloc _), (Blk.newAt ((w.alloc _).alloc _) _ _ (b := w.heap.size + 1 + 1) (by simp)), ((((Below.refl _ _).alloc (Nat.le_refl _) _).alloc (by simp <;> omega) _).alloc (by simp <;> omega) _)⟩
  rintro W ⟨qx, qy, qr, hbn⟩
  have Hx := Lib.hid qx; clear qx
  have Hy := Lib.hid qy; clear qy
  have Hr := Lib.hid qr; clear qr
  have x0 : W.cell? ⟨w.heap.size, 0, none⟩ = some (.bool s) := Hx.out.cell 0
  have fx0 : W.frozen? ⟨w.heap.size, 0, none⟩ = false := Hx.out.free 0
  have x1 : W.cell? ⟨w.heap.size, 1, none⟩ = some (.string (bs l)) := Hx.out.cell 1
  have fx1 : W.frozen? ⟨w.heap.size, 1, none⟩ = false := Hx.out.free 1
  have x2 : W.cell? ⟨w.heap.size, 2, none⟩ = some (.int .i64 e) := Hx.out.cell 2
  have fx2 : W.frozen? ⟨w.heap.size, 2, none⟩ = false := Hx.out.free 2
  have y0 : W.cell? ⟨w.heap.size + 1, 0, none⟩ = some (.bool t) := Hy.out.cell 0
  have fy0 : W.frozen? ⟨w.heap.size + 1, 0, none⟩ = false := Hy.out.free 0
  have y1 : W.cell? ⟨w.heap.size + 1, 1, none⟩ = some (.string (bs m)) := Hy.out.cell 1
  have fy1 : W.frozen? ⟨w.heap.size + 1, 1, none⟩ = false := Hy.out.free 1
  have y2 : W.cell? ⟨w.heap.size + 1, 2, none⟩ = some (.int .i64 f) := Hy.out.cell 2
  have fy2 : W.frozen? ⟨w.heap.size + 1, 2, none⟩ = false := Hy.out.free 2
  have r0 : W.cell? ⟨w.heap.size + 1 + 1, 0, none⟩ = some (.int .i64 0) := Hr.out.cell 0
  have fr0 : W.frozen? ⟨w.heap.size + 1 + 1, 0, none⟩ = false := Hr.out.free 0
  have r1 : W.cell? ⟨w.heap.size + 1 + 1, 1, none⟩ = some (.bool false) := Hr.out.cell 1
  have fr1 : W.frozen? ⟨w.heap.size + 1 + 1, 1, none⟩ = false := Hr.out.free 1
  have r2 : W.cell? ⟨w.heap.size + 1 + 1, 2, none⟩ = some (.string (bs [])) := Hr.out.cell 2
  have fr2 : W.frozen? ⟨w.heap.size + 1 + 1, 2, none⟩ = false := Hr.out.free 2
  have r3 : W.cell? ⟨w.heap.size + 1 + 1, 3, none⟩ = some (.bool false) := Hr.out.cell 3
  have fr3 : W.frozen? ⟨w.heap.size + 1 + 1, 3, none⟩ = false := Hr.out.free 3
  have r4 : W.cell? ⟨w.heap.size + 1 + 1, 4, none⟩ = some (.string (bs [])) := Hr.out.cell 4
  have fr4 : W.frozen? ⟨w.heap.size + 1 + 1, 4, none⟩ = false := Hr.out.free 4
  replace Hb := Lib.hid (bnext Hb.out hbn); clear hbn
  have HT := Lib.hid (hT.below Hb.out)
  refine wp_region_plan (fun w' => w'.cell? ⟨w.heap.size, 0, none⟩ = some (.bool s) ∧ w'.cell? ⟨w.heap.size, 1, none⟩ = some (.string (bs l)) ∧ w'.cell? ⟨w.heap.size, 2, none⟩ = some (.int .i64 e) ∧ w'.cell? ⟨w.heap.size + 1, 0, none⟩ = some (.bool t) ∧ w'.cell? ⟨w.heap.size + 1, 1, none⟩ = some (.string (bs m)) ∧ w'.cell? ⟨w.heap.size + 1, 2, none⟩ = some (.int .i64 f)) (fun i => Nat.blt i 4) [(0, true), (2, true), (1, false), (3, false), (4, false), (5, false)] (by kernel_rfl) (by kernel_rfl) rfl (by kernel_rfl) (fun o c a v w => by cases o.dst <;> exact id) ⟨x0, x1, x2, y0, y1, y2⟩ ?_
  refine planT rfl rfl (v := ?_) (fun w' hw' => ?_) ?_; rotate_left; focus (obtain ⟨q0, q1, q2, q3, q4, q5⟩ := hw'; go_simp; try with_reducible rfl)
  try simp only [Act.put, List.setIfInBounds_toArray, List.set_cons_zero, List.set_cons_succ]
  refine planT rfl rfl (v := ?_) (fun w' hw' => ?_) ?_; rotate_left; focus (obtain ⟨q0, q1, q2, q3, q4, q5⟩ := hw'; go_simp; try with_reducible rfl)
  try simp only [Act.put, List.setIfInBounds_toArray, List.set_cons_zero, List.set_cons_succ]
  refine planF rfl rfl (fun K hK => ?_)
  go_simp
  with_reducible refine (Hform1.out _ (by first | exact HT.out | exact Tab.drew HT.out | exact Tab.alloc HT.out _ | exact Tab.drew (Tab.alloc HT.out _) | exact Tab.alloc (Tab.drew HT.out) _)).mono ?_
  rintro e w1 ⟨rfl, hq⟩
  have hbn : Below W.heap.size W w1 := (by first | exact hq | exact bundrew hq); clear hq
  clear x0 fx0 x1 fx1 x2 fx2
  clear y0 fy0 y1 fy1 y2 fy2
  clear r0 fr0 r1 fr1 r2 fr2 r3 fr3 r4 fr4
  replace Hx := Lib.hid (Hx.out.below hbn)
  replace Hy := Lib.hid (Hy.out.below hbn)
  replace Hr := Lib.hid (Hr.out.below hbn)
  have x0 : w1.cell? ⟨w.heap.size, 0, none⟩ = some (.bool s) := Hx.out.cell 0
  have fx0 : w1.frozen? ⟨w.heap.size, 0, none⟩ = false := Hx.out.free 0
  have x1 : w1.cell? ⟨w.heap.size, 1, none⟩ = some (.string (bs l)) := Hx.out.cell 1
  have fx1 : w1.frozen? ⟨w.heap.size, 1, none⟩ = false := Hx.out.free 1
  have x2 : w1.cell? ⟨w.heap.size, 2, none⟩ = some (.int .i64 e) := Hx.out.cell 2
  have fx2 : w1.frozen? ⟨w.heap.size, 2, none⟩ = false := Hx.out.free 2
  have y0 : w1.cell? ⟨w.heap.size + 1, 0, none⟩ = some (.bool t) := Hy.out.cell 0
  have fy0 : w1.frozen? ⟨w.heap.size + 1, 0, none⟩ = false := Hy.out.free 0
  have y1 : w1.cell? ⟨w.heap.size + 1, 1, none⟩ = some (.string (bs m)) := Hy.out.cell 1
  have fy1 : w1.frozen? ⟨w.heap.size + 1, 1, none⟩ = false := Hy.out.free 1
  have y2 : w1.cell? ⟨w.heap.size + 1, 2, none⟩ = some (.int .i64 f) := Hy.out.cell 2
  have fy2 : w1.frozen? ⟨w.heap.size + 1, 2, none⟩ = false := Hy.out.free 2
  have r0 : w1.cell? ⟨w.heap.size + 1 + 1, 0, none⟩ = some (.int .i64 0) := Hr.out.cell 0
  have fr0 : w1.frozen? ⟨w.heap.size + 1 + 1, 0, none⟩ = false := Hr.out.free 0
  have r1 : w1.cell? ⟨w.heap.size + 1 + 1, 1, none⟩ = some (.bool false) := Hr.out.cell 1
  have fr1 : w1.frozen? ⟨w.heap.size + 1 + 1, 1, none⟩ = false := Hr.out.free 1
  have r2 : w1.cell? ⟨w.heap.size + 1 + 1, 2, none⟩ = some (.string (bs [])) := Hr.out.cell 2
  have fr2 : w1.frozen? ⟨w.heap.size + 1 + 1, 2, none⟩ = false := Hr.out.free 2
  have r3 : w1.cell? ⟨w.heap.size + 1 + 1, 3, none⟩ = some (.bool false) := Hr.out.cell 3
  have fr3 : w1.frozen? ⟨w.heap.size + 1 + 1, 3, none⟩ = false := Hr.out.free 3
  have r4 : w1.cell? ⟨w.heap.size + 1 + 1, 4, none⟩ = some (.string (bs [])) := Hr.out.cell 4
  have fr4 : w1.frozen? ⟨w.heap.size + 1 + 1, 4, none⟩ = false := Hr.out.free 4
  replace Hb := Lib.hid (bnext Hb.out hbn); clear hbn
  refine hK _ _ (fun _ => ⟨x0, x1, x2, y0, y1, y2⟩) ?_; clear hK K
  try simp only [Act.put, List.setIfInBounds_toArray, List.set_cons_zero, List.set_cons_succ]
  refine planF rfl rfl (fun K hK => ?_)
  go_simp
  with_reducible refine (Hform2.out _ (by first | exact (hT.below Hb.out) | exact Tab.drew (hT.below Hb.out) | exact Tab.alloc (hT.below Hb.out) _ | exact Tab.drew (Tab.alloc (hT.below Hb.out) _) | exact Tab.alloc (Tab.drew (hT.below Hb.out)) _)).mono ?_
  rintro e w2 ⟨rfl, hq⟩
  have hbn : Below w1.heap.size w1 w2 := (by first | exact hq | exact bundrew hq); clear hq
  clear x0 fx0 x1 fx1 x2 fx2
  clear y0 fy0 y1 fy1 y2 fy2
  clear r0 fr0 r1 fr1 r2 fr2 r3 fr3 r4 fr4
  replace Hx := Lib.hid (Hx.out.below hbn)
  replace Hy := Lib.hid (Hy.out.below hbn)
  replace Hr := Lib.hid (Hr.out.below hbn)
  have x0 : w2.cell? ⟨w.heap.size, 0, none⟩ = some (.bool s) := Hx.out.cell 0
  have fx0 : w2.frozen? ⟨w.heap.size, 0, none⟩ = false := Hx.out.free 0
  have x1 : w2.cell? ⟨w.heap.size, 1, none⟩ = some (.string (bs l)) := Hx.out.cell 1
  have fx1 : w2.frozen? ⟨w.heap.size, 1, none⟩ = false := Hx.out.free 1
  have x2 : w2.cell? ⟨w.heap.size, 2, none⟩ = some (.int .i64 e) := Hx.out.cell 2
  have fx2 : w2.frozen? ⟨w.heap.size, 2, none⟩ = false := Hx.out.free 2
  have y0 : w2.cell? ⟨w.heap.size + 1, 0, none⟩ = some (.bool t) := Hy.out.cell 0
  have fy0 : w2.frozen? ⟨w.heap.size + 1, 0, none⟩ = false := Hy.out.free 0
  have y1 : w2.cell? ⟨w.heap.size + 1, 1, none⟩ = some (.string (bs m)) := Hy.out.cell 1
  have fy1 : w2.frozen? ⟨w.heap.size + 1, 1, none⟩ = false := Hy.out.free 1
  have y2 : w2.cell? ⟨w.heap.size + 1, 2, none⟩ = some (.int .i64 f) := Hy.out.cell 2
  have fy2 : w2.frozen? ⟨w.heap.size + 1, 2, none⟩ = false := Hy.out.free 2
  have r0 : w2.cell? ⟨w.heap.size + 1 + 1, 0, none⟩ = some (.int .i64 0) := Hr.out.cell 0
  have fr0 : w2.frozen? ⟨w.heap.size + 1 + 1, 0, none⟩ = false := Hr.out.free 0
  have r1 : w2.cell? ⟨w.heap.size + 1 + 1, 1, none⟩ = some (.bool false) := Hr.out.cell 1
  have fr1 : w2.frozen? ⟨w.heap.size + 1 + 1, 1, none⟩ = false := Hr.out.free 1
  have r2 : w2.cell? ⟨w.heap.size + 1 + 1, 2, none⟩ = some (.string (bs [])) := Hr.out.cell 2
  have fr2 : w2.frozen? ⟨w.heap.size + 1 + 1, 2, none⟩ = false := Hr.out.free 2
  have r3 : w2.cell? ⟨w.heap.size + 1 + 1, 3, none⟩ = some (.bool false) := Hr.out.cell 3
  have fr3 : w2.frozen? ⟨w.heap.size + 1 + 1, 3, none⟩ = false := Hr.out.free 3
  have r4 : w2.cell? ⟨w.heap.size + 1 + 1, 4, none⟩ = some (.string (bs [])) := Hr.out.cell 4
  have fr4 : w2.frozen? ⟨w.heap.size + 1 + 1, 4, none⟩ = false := Hr.out.free 4
  replace Hb := Lib.hid (bnext Hb.out hbn); clear hbn
  refine hK _ _ (fun _ => ⟨x0, x1, x2, y0, y1, y2⟩) ?_; clear hK K
  try simp only [Act.put, List.setIfInBounds_toArray, List.set_cons_zero, List.set_cons_succ]
  refine planF rfl rfl (fun K hK => ?_)
  go_simp
  refine hK _ _ (fun h => absurd h (by decide)) ?_; clear hK K
  try simp only [Act.put, List.setIfInBounds_toArray, List.set_cons_zero, List.set_cons_succ]
  clear x0 fx0 x1 fx1 x2 fx2
  clear y0 fy0 y1 fy1 y2 fy2
  clear r0 fr0 r1 fr1 r2 fr2 r3 fr3 r4 fr4
  refine plan_world (fun w3 => Blk w3 (w.heap.size) 36 [.bool p, .string (bs a), .int .i64 i] ∧ Blk w3 (w.heap.size + 1) 36 [.bool t, .string (bs m), .int .i64 f] ∧ Blk w3 (w.heap.size + 1 + 1) 99 [.int .i64 0, .bool false, .string (bs []), .bool false, .string (bs [])] ∧ Below w.heap.size w w3) (by first | exact ⟨(((Hx.out.set 0 _).set 1 _).set 2 _), (((Hy.out.set_other ⟨w.heap.size, 0, none⟩ (by first | (dsimp only; omega) | (simp <;> omega)) _).set_other ⟨w.heap.size, 1, none⟩ (by first | (dsimp only; omega) | (simp <;> omega)) _).set_other ⟨w.heap.size, 2, none⟩ (by first | (dsimp only; omega) | (simp <;> omega)) _), (((Hr.out.set_other ⟨w.heap.size, 0, none⟩ (by first | (dsimp only; omega) | (simp <;> omega)) _).set_other ⟨w.heap.size, 1, none⟩ (by first | (dsimp only; omega) | (simp <;> omega)) _).set_other ⟨w.heap.size, 2, none⟩ (by first | (dsimp only; omega) | (simp <;> omega)) _), (((Hb.out.setCell (p := ⟨w.heap.size, 0, none⟩) (by have := Hb.out.size; first | (dsimp only; omega) | (simp <;> omega)) _).setCell (p := ⟨w.heap.size, 1, none⟩) (by have := Hb.out.size; first | (dsimp only; omega) | (simp <;> omega)) _).setCell (p := ⟨w.heap.size, 2, none⟩) (by have := Hb.out.size; first | (dsimp only; omega) | (simp <;> omega)) _)⟩ | exact ⟨(((Hx.out.set 0 _).set 1 _).set 2 _), (((Hy.out.set_other ⟨w.heap.size, 0, none⟩ (by first | (dsimp only; omega) | (simp <;> omega)) _).set_other ⟨w.heap.size, 1, none⟩ (by first | (dsimp only; omega) | (simp <;> omega)) _).set_other ⟨w.heap.size, 2, none⟩ (by first | (dsimp only; omega) | (simp <;> omega)) _), (((Hr.out.set_other ⟨w.heap.size, 0, none⟩ (by first | (dsimp only; omega) | (simp <;> omega)) _).set_other ⟨w.heap.size, 1, none⟩ (by first | (dsimp only; omega) | (simp <;> omega)) _).set_other ⟨w.heap.size, 2, none⟩ (by first | (dsimp only; omega) | (simp <;> omega)) _), Below.drew (((Hb.out.setCell (p := ⟨w.heap.size, 0, none⟩) (by have := Hb.out.size; first | (dsimp only; omega) | (simp <;> omega)) _).setCell (p := ⟨w.heap.size, 1, none⟩) (by have := Hb.out.size; first | (dsimp only; omega) | (simp <;> omega)) _).setCell (p := ⟨w.heap.size, 2, none⟩) (by have := Hb.out.size; first | (dsimp only; omega) | (simp <;> omega)) _)⟩) ?_
  rintro w3 ⟨qx, qy, qr, hbn⟩
  replace Hx := Lib.hid qx; clear qx
  replace Hy := Lib.hid qy; clear qy
  replace Hr := Lib.hid qr; clear qr
  have x0 : w3.cell? ⟨w.heap.size, 0, none⟩ = some (.bool p) := Hx.out.cell 0
  have fx0 : w3.frozen? ⟨w.heap.size, 0, none⟩ = false := Hx.out.free 0
  have x1 : w3.cell? ⟨w.heap.size, 1, none⟩ = some (.string (bs a)) := Hx.out.cell 1
  have fx1 : w3.frozen? ⟨w.heap.size, 1, none⟩ = false := Hx.out.free 1
  have x2 : w3.cell? ⟨w.heap.size, 2, none⟩ = some (.int .i64 i) := Hx.out.cell 2
  have fx2 : w3.frozen? ⟨w.heap.size, 2, none⟩ = false := Hx.out.free 2
  have y0 : w3.cell? ⟨w.heap.size + 1, 0, none⟩ = some (.bool t) := Hy.out.cell 0
  have fy0 : w3.frozen? ⟨w.heap.size + 1, 0, none⟩ = false := Hy.out.free 0
  have y1 : w3.cell? ⟨w.heap.size + 1, 1, none⟩ = some (.string (bs m)) := Hy.out.cell 1
  have fy1 : w3.frozen? ⟨w.heap.size + 1, 1, none⟩ = false := Hy.out.free 1
  have y2 : w3.cell? ⟨w.heap.size + 1, 2, none⟩ = some (.int .i64 f) := Hy.out.cell 2
  have fy2 : w3.frozen? ⟨w.heap.size + 1, 2, none⟩ = false := Hy.out.free 2
  have r0 : w3.cell? ⟨w.heap.size + 1 + 1, 0, none⟩ = some (.int .i64 0) := Hr.out.cell 0
  have fr0 : w3.frozen? ⟨w.heap.size + 1 + 1, 0, none⟩ = false := Hr.out.free 0
  have r1 : w3.cell? ⟨w.heap.size + 1 + 1, 1, none⟩ = some (.bool false) := Hr.out.cell 1
  have fr1 : w3.frozen? ⟨w.heap.size + 1 + 1, 1, none⟩ = false := Hr.out.free 1
  have r2 : w3.cell? ⟨w.heap.size + 1 + 1, 2, none⟩ = some (.string (bs [])) := Hr.out.cell 2
  have fr2 : w3.frozen? ⟨w.heap.size + 1 + 1, 2, none⟩ = false := Hr.out.free 2
  have r3 : w3.cell? ⟨w.heap.size + 1 + 1, 3, none⟩ = some (.bool false) := Hr.out.cell 3
  have fr3 : w3.frozen? ⟨w.heap.size + 1 + 1, 3, none⟩ = false := Hr.out.free 3
  have r4 : w3.cell? ⟨w.heap.size + 1 + 1, 4, none⟩ = some (.string (bs [])) := Hr.out.cell 4
  have fr4 : w3.frozen? ⟨w.heap.size + 1 + 1, 4, none⟩ = false := Hr.out.free 4
  replace Hb := Lib.hid hbn; clear hbn
  refine planF rfl rfl (fun K hK => ?_)
  go_simp
  refine hK _ _ (fun h => absurd h (by decide)) ?_; clear hK K
  try simp only [Act.put, List.setIfInBounds_toArray, List.set_cons_zero, List.set_cons_succ]
  clear x0 fx0 x1 fx1 x2 fx2
  clear y0 fy0 y1 fy1 y2 fy2
  clear r0 fr0 r1 fr1 r2 fr2 r3 fr3 r4 fr4
  refine plan_world (fun w4 => Blk w4 (w.heap.size) 36 [.bool p, .string (bs a), .int .i64 i] ∧ Blk w4 (w.heap.size + 1) 36 [.bool q, .string (bs b), .int .i64 j] ∧ Blk w4 (w.heap.size + 1 + 1) 99 [.int .i64 0, .bool false, .string (bs []), .bool false, .string (bs [])] ∧ Below w.heap.size w w4) (by first | exact ⟨(((Hx.out.set_other ⟨w.heap.size + 1, 0, none⟩ (by first | (dsimp only; omega) | (simp <;> omega)) _).set_other ⟨w.heap.size + 1, 1, none⟩ (by first | (dsimp only; omega) | (simp <;> omega)) _).set_other ⟨w.heap.size + 1, 2, none⟩ (by first | (dsimp only; omega) | (simp <;> omega)) _), (((Hy.out.set 0 _).set 1 _).set 2 _), (((Hr.out.set_other ⟨w.heap.size + 1, 0, none⟩ (by first | (dsimp only; omega) | (simp <;> omega)) _).set_other ⟨w.heap.size + 1, 1, none⟩ (by first | (dsimp only; omega) | (simp <;> omega)) _).set_other ⟨w.heap.size + 1, 2, none⟩ (by first | (dsimp only; omega) | (simp <;> omega)) _), (((Hb.out.setCell (p := ⟨w.heap.size + 1, 0, none⟩) (by have := Hb.out.size; first | (dsimp only; omega) | (simp <;> omega)) _).setCell (p := ⟨w.heap.size + 1, 1, none⟩) (by have := Hb.out.size; first | (dsimp only; omega) | (simp <;> omega)) _).setCell (p := ⟨w.heap.size + 1, 2, none⟩) (by have := Hb.out.size; first | (dsimp only; omega) | (simp <;> omega)) _)⟩ | exact ⟨(((Hx.out.set_other ⟨w.heap.size + 1, 0, none⟩ (by first | (dsimp only; omega) | (simp <;> omega)) _).set_other ⟨w.heap.size + 1, 1, none⟩ (by first | (dsimp only; omega) | (simp <;> omega)) _).set_other ⟨w.heap.size + 1, 2, none⟩ (by first | (dsimp only; omega) | (simp <;> omega)) _), (((Hy.out.set 0 _).set 1 _).set 2 _), (((Hr.out.set_other ⟨w.heap.size + 1, 0, none⟩ (by first | (dsimp only; omega) | (simp <;> omega)) _).set_other ⟨w.heap.size + 1, 1, none⟩ (by first | (dsimp only; omega) | (simp <;> omega)) _).set_other ⟨w.heap.size + 1, 2, none⟩ (by first | (dsimp only; omega) | (simp <;> omega)) _), Below.drew (((Hb.out.setCell (p := ⟨w.heap.size + 1, 0, none⟩) (by have := Hb.out.size; first | (dsimp only; omega) | (simp <;> omega)) _).setCell (p := ⟨w.heap.size + 1, 1, none⟩) (by have := Hb.out.size; first | (dsimp only; omega) | (simp <;> omega)) _).setCell (p := ⟨w.heap.size + 1, 2, none⟩) (by have := Hb.out.size; first | (dsimp only; omega) | (simp <;> omega)) _)⟩) ?_
  rintro w4 ⟨qx, qy, qr, hbn⟩
  replace Hx := Lib.hid qx; clear qx
  replace Hy := Lib.hid qy; clear qy
  replace Hr := Lib.hid qr; clear qr
  have x0 : w4.cell? ⟨w.heap.size, 0, none⟩ = some (.bool p) := Hx.out.cell 0
  have fx0 : w4.frozen? ⟨w.heap.size, 0, none⟩ = false := Hx.out.free 0
  have x1 : w4.cell? ⟨w.heap.size, 1, none⟩ = some (.string (bs a)) := Hx.out.cell 1
  have fx1 : w4.frozen? ⟨w.heap.size, 1, none⟩ = false := Hx.out.free 1
  have x2 : w4.cell? ⟨w.heap.size, 2, none⟩ = some (.int .i64 i) := Hx.out.cell 2
  have fx2 : w4.frozen? ⟨w.heap.size, 2, none⟩ = false := Hx.out.free 2
  have y0 : w4.cell? ⟨w.heap.size + 1, 0, none⟩ = some (.bool q) := Hy.out.cell 0
  have fy0 : w4.frozen? ⟨w.heap.size + 1, 0, none⟩ = false := Hy.out.free 0
  have y1 : w4.cell? ⟨w.heap.size + 1, 1, none⟩ = some (.string (bs b)) := Hy.out.cell 1
  have fy1 : w4.frozen? ⟨w.heap.size + 1, 1, none⟩ = false := Hy.out.free 1
  have y2 : w4.cell? ⟨w.heap.size + 1, 2, none⟩ = some (.int .i64 j) := Hy.out.cell 2
  have fy2 : w4.frozen? ⟨w.heap.size + 1, 2, none⟩ = false := Hy.out.free 2
  have r0 : w4.cell? ⟨w.heap.size + 1 + 1, 0, none⟩ = some (.int .i64 0) := Hr.out.cell 0
  have fr0 : w4.frozen? ⟨w.heap.size + 1 + 1, 0, none⟩ = false := Hr.out.free 0
  have r1 : w4.cell? ⟨w.heap.size + 1 + 1, 1, none⟩ = some (.bool false) := Hr.out.cell 1
  have fr1 : w4.frozen? ⟨w.heap.size + 1 + 1, 1, none⟩ = false := Hr.out.free 1
  have r2 : w4.cell? ⟨w.heap.size + 1 + 1, 2, none⟩ = some (.string (bs [])) := Hr.out.cell 2
  have fr2 : w4.frozen? ⟨w.heap.size + 1 + 1, 2, none⟩ = false := Hr.out.free 2
  have r3 : w4.cell? ⟨w.heap.size + 1 + 1, 3, none⟩ = some (.bool false) := Hr.out.cell 3
  have fr3 : w4.frozen? ⟨w.heap.size + 1 + 1, 3, none⟩ = false := Hr.out.free 3
  have r4 : w4.cell? ⟨w.heap.size + 1 + 1, 4, none⟩ = some (.string (bs [])) := Hr.out.cell 4
  have fr4 : w4.frozen? ⟨w.heap.size + 1 + 1, 4, none⟩ = false := Hr.out.free 4
  replace Hb := Lib.hid hbn; clear hbn
  simp only [wpPlan]
  have Hr4 := Hr
  clear x0 x1 x2 fx0 fx1 fx2 y0 y1 y2 fy0 fy1 fy2 r0 r1 r2 r3 r4 fr0 fr1 fr2 fr3 fr4 HT Hform1 Hform2
  rcases hlv with ⟨h1, h2⟩ | ⟨h1, h3, h2⟩ | ⟨h1, h3, h2⟩
  · obtain ⟨rfl, rfl, rfl⟩ := zA h1
    subst h2
    have z1 : (bs []).toList = [] := bs_toList _
    clear zA zB nA nB pA pB
    have x0 : w4.cell? ⟨w.heap.size, 0, none⟩ = some (.bool false) := Hx.out.cell 0
    have fx0 : w4.frozen? ⟨w.heap.size, 0, none⟩ = false := Hx.out.free 0
    have x1 : w4.cell? ⟨w.heap.size, 1, none⟩ = some (.string (bs [])) := Hx.out.cell 1
    have fx1 : w4.frozen? ⟨w.heap.size, 1, none⟩ = false := Hx.out.free 1
    have x2 : w4.cell? ⟨w.heap.size, 2, none⟩ = some (.int .i64 0) := Hx.out.cell 2
    have fx2 : w4.frozen? ⟨w.heap.size, 2, none⟩ = false := Hx.out.free 2
    have y0 : w4.cell? ⟨w.heap.size + 1, 0, none⟩ = some (.bool q) := Hy.out.cell 0
    have fy0 : w4.frozen? ⟨w.heap.size + 1, 0, none⟩ = false := Hy.out.free 0
    have y1 : w4.cell? ⟨w.heap.size + 1, 1, none⟩ = some (.string (bs b)) := Hy.out.cell 1
    have fy1 : w4.frozen? ⟨w.heap.size + 1, 1, none⟩ = false := Hy.out.free 1
    have y2 : w4.cell? ⟨w.heap.size + 1, 2, none⟩ = some (.int .i64 g) := Hy.out.cell 2
    have fy2 : w4.frozen? ⟨w.heap.size + 1, 2, none⟩ = false := Hy.out.free 2
    have r0 : w4.cell? ⟨w.heap.size + 1 + 1, 0, none⟩ = some (.int .i64 0) := Hr.out.cell 0
    have fr0 : w4.frozen? ⟨w.heap.size + 1 + 1, 0, none⟩ = false := Hr.out.free 0
    have r1 : w4.cell? ⟨w.heap.size + 1 + 1, 1, none⟩ = some (.bool false) := Hr.out.cell 1
    have fr1 : w4.frozen? ⟨w.heap.size + 1 + 1, 1, none⟩ = false := Hr.out.free 1
    have r2 : w4.cell? ⟨w.heap.size + 1 + 1, 2, none⟩ = some (.string (bs [])) := Hr.out.cell 2
    have fr2 : w4.frozen? ⟨w.heap.size + 1 + 1, 2, none⟩ = false := Hr.out.free 2
    have r3 : w4.cell? ⟨w.heap.size + 1 + 1, 3, none⟩ = some (.bool false) := Hr.out.cell 3
    have fr3 : w4.frozen? ⟨w.heap.size + 1 + 1, 3, none⟩ = false := Hr.out.free 3
    have r4 : w4.cell? ⟨w.heap.size + 1 + 1, 4, none⟩ = some (.string (bs [])) := Hr.out.cell 4
    have fr4 : w4.frozen? ⟨w.heap.size + 1 + 1, 4, none⟩ = false := Hr.out.free 4
    have lz_x_W5 : w.heap.size < w4.heap.size := Hx.out.lt
    have lz_y_W5 : w.heap.size + 1 < w4.heap.size := Hy.out.lt
    have lz_r_W5 : w.heap.size + 1 + 1 < w4.heap.size := Hr.out.lt
    go_wp2_with fail
    first | refine wp_world (fun W5 => Blk W5 (w4.heap.size) 99 [.int .i64 g, .bool false, .string (bs []), .bool false, .string (bs [])] ∧ Below w4.heap.size w4 W5) ?hR ?_ | refine calls_world (fun W5 => Blk W5 (w4.heap.size) 99 [.int .i64 g, .bool false, .string (bs []), .bool false, .string (bs [])] ∧ Below w4.heap.size w4 W5) ?hR ?_
    case hR => exact ⟨(Blk.newAt w4 _ _ (b := w4.heap.size) rfl), ((Below.refl _ _).alloc (Nat.le_refl _) _)⟩
    rintro W5 ⟨qn, hbn⟩
    have Hn := Lib.hid qn; clear qn
    clear x0 fx0 x1 fx1 x2 fx2
    replace Hx := Lib.hid (Hx.out.below hbn)
    have x0 : W5.cell? ⟨w.heap.size, 0, none⟩ = some (.bool false) := Hx.out.cell 0
    have fx0 : W5.frozen? ⟨w.heap.size, 0, none⟩ = false := Hx.out.free 0
    have x1 : W5.cell? ⟨w.heap.size, 1, none⟩ = some (.string (bs [])) := Hx.out.cell 1
    have fx1 : W5.frozen? ⟨w.heap.size, 1, none⟩ = false := Hx.out.free 1
    have x2 : W5.cell? ⟨w.heap.size, 2, none⟩ = some (.int .i64 0) := Hx.out.cell 2
    have fx2 : W5.frozen? ⟨w.heap.size, 2, none⟩ = false := Hx.out.free 2
    clear y0 fy0 y1 fy1 y2 fy2
    replace Hy := Lib.hid (Hy.out.below hbn)
    have y0 : W5.cell? ⟨w.heap.size + 1, 0, none⟩ = some (.bool q) := Hy.out.cell 0
    have fy0 : W5.frozen? ⟨w.heap.size + 1, 0, none⟩ = false := Hy.out.free 0
    have y1 : W5.cell? ⟨w.heap.size + 1, 1, none⟩ = some (.string (bs b)) := Hy.out.cell 1
    have fy1 : W5.frozen? ⟨w.heap.size + 1, 1, none⟩ = false := Hy.out.free 1
    have y2 : W5.cell? ⟨w.heap.size + 1, 2, none⟩ = some (.int .i64 g) := Hy.out.cell 2
    have fy2 : W5.frozen? ⟨w.heap.size + 1, 2, none⟩ = false := Hy.out.free 2
    clear r0 fr0 r1 fr1 r2 fr2 r3 fr3 r4 fr4
    replace Hr := Lib.hid (Hr.out.below hbn)
    have r0 : W5.cell? ⟨w.heap.size + 1 + 1, 0, none⟩ = some (.int .i64 0) := Hr.out.cell 0
    have fr0 : W5.frozen? ⟨w.heap.size + 1 + 1, 0, none⟩ = false := Hr.out.free 0
    have r1 : W5.cell? ⟨w.heap.size + 1 + 1, 1, none⟩ = some (.bool false) := Hr.out.cell 1
    have fr1 : W5.frozen? ⟨w.heap.size + 1 + 1, 1, none⟩ = false := Hr.out.free 1
    have r2 : W5.cell? ⟨w.heap.size + 1 + 1, 2, none⟩ = some (.string (bs [])) := Hr.out.cell 2
    have fr2 : W5.frozen? ⟨w.heap.size + 1 + 1, 2, none⟩ = false := Hr.out.free 2
    have r3 : W5.cell? ⟨w.heap.size + 1 + 1, 3, none⟩ = some (.bool false) := Hr.out.cell 3
    have fr3 : W5.frozen? ⟨w.heap.size + 1 + 1, 3, none⟩ = false := Hr.out.free 3
    have r4 : W5.cell? ⟨w.heap.size + 1 + 1, 4, none⟩ = some (.string (bs [])) := Hr.out.cell 4
    have fr4 : W5.frozen? ⟨w.heap.size + 1 + 1, 4, none⟩ = false := Hr.out.free 4
    have n0 : W5.cell? ⟨w4.heap.size, 0, none⟩ = some (.int .i64 g) := Hn.out.cell 0
    have fn0 : W5.frozen? ⟨w4.heap.size, 0, none⟩ = false := Hn.out.free 0
    have n1 : W5.cell? ⟨w4.heap.size, 1, none⟩ = some (.bool false) := Hn.out.cell 1
    have fn1 : W5.frozen? ⟨w4.heap.size, 1, none⟩ = false := Hn.out.free 1
    have n2 : W5.cell? ⟨w4.heap.size, 2, none⟩ = some (.string (bs [])) := Hn.out.cell 2
    have fn2 : W5.frozen? ⟨w4.heap.size, 2, none⟩ = false := Hn.out.free 2
    have n3 : W5.cell? ⟨w4.heap.size, 3, none⟩ = some (.bool false) := Hn.out.cell 3
    have fn3 : W5.frozen? ⟨w4.heap.size, 3, none⟩ = false := Hn.out.free 3
    have n4 : W5.cell? ⟨w4.heap.size, 4, none⟩ = some (.string (bs [])) := Hn.out.cell 4
    have fn4 : W5.frozen? ⟨w4.heap.size, 4, none⟩ = false := Hn.out.free 4
    replace Hb := Lib.hid (bnext Hb.out hbn); clear hbn
    have hns : w.heap.size + 1 + 1 < w4.heap.size := Hr4.out.lt
    refine wp_region_plan (fun w' => w'.cell? ⟨w.heap.size, 0, none⟩ = some (.bool false) ∧ w'.cell? ⟨w.heap.size, 1, none⟩ = some (.string (bs [])) ∧ w'.cell? ⟨w.heap.size, 2, none⟩ = some (.int .i64 0) ∧ w'.cell? ⟨w.heap.size + 1, 0, none⟩ = some (.bool q) ∧ w'.cell? ⟨w.heap.size + 1, 1, none⟩ = some (.string (bs b)) ∧ w'.cell? ⟨w.heap.size + 1, 2, none⟩ = some (.int .i64 g) ∧ w'.cell? ⟨w4.heap.size, 0, none⟩ = some (.int .i64 g)) (fun i => Nat.blt i 11) [(0, true), (1, true), (2, true), (4, true), (5, true), (6, true), (3, false), (8, true), (7, false), (9, false), (10, true), (11, false)] (by kernel_rfl) (by kernel_rfl) rfl (by kernel_rfl) (fun o c a v w => by cases o.dst <;> exact id) ⟨x0, x1, x2, y0, y1, y2, n0⟩ ?_
    refine planT rfl rfl (v := ?_) (fun w' hw' => ?_) ?_; rotate_left; focus (go_simp; try with_reducible rfl)
    try simp only [Act.put, List.setIfInBounds_toArray, List.set_cons_zero, List.set_cons_succ]
    refine planT rfl rfl (v := ?_) (fun w' hw' => ?_) ?_; rotate_left; focus (obtain ⟨q0, q1, q2, q3, q4, q5, q6⟩ := hw'; go_simp; try with_reducible rfl)
    try simp only [Act.put, List.setIfInBounds_toArray, List.set_cons_zero, List.set_cons_succ]
    refine planT rfl rfl (v := ?_) (fun w' hw' => ?_) ?_; rotate_left; focus (obtain ⟨q0, q1, q2, q3, q4, q5, q6⟩ := hw'; go_simp; try with_reducible rfl)
    try simp only [Act.put, List.setIfInBounds_toArray, List.set_cons_zero, List.set_cons_succ]
    refine planT rfl rfl (v := ?_) (fun w' hw' => ?_) ?_; rotate_left; focus (go_simp; try with_reducible rfl)
    try simp only [Act.put, List.setIfInBounds_toArray, List.set_cons_zero, List.set_cons_succ]
    refine planT rfl rfl (v := ?_) (fun w' hw' => ?_) ?_; rotate_left; focus (obtain ⟨q0, q1, q2, q3, q4, q5, q6⟩ := hw'; go_simp; try with_reducible rfl)
    try simp only [Act.put, List.setIfInBounds_toArray, List.set_cons_zero, List.set_cons_succ]
    refine planT rfl rfl (v := ?_) (fun w' hw' => ?_) ?_; rotate_left; focus (obtain ⟨q0, q1, q2, q3, q4, q5, q6⟩ := hw'; go_simp; try with_reducible rfl)
    try simp only [Act.put, List.setIfInBounds_toArray, List.set_cons_zero, List.set_cons_succ]
    refine planF rfl rfl (fun K hK => ?_)
    go_simp
    with_reducible refine (on_any false [] 0 g X HX.out _ La.out Hgi.out (by first | exact (hT.below Hb.out) | exact Tab.drew (hT.below Hb.out) | exact Tab.alloc (hT.below Hb.out) _ | exact Tab.drew (Tab.alloc (hT.below Hb.out) _) | exact Tab.alloc (Tab.drew (hT.below Hb.out)) _)).mono ?_
    rintro e w6 ⟨rfl, hq⟩
    have hbn : Below W5.heap.size W5 w6 := (by first | exact hq | exact bundrew hq); clear hq
    clear x0 fx0 x1 fx1 x2 fx2
    clear y0 fy0 y1 fy1 y2 fy2
    clear r0 fr0 r1 fr1 r2 fr2 r3 fr3 r4 fr4
    clear n0 fn0 n1 fn1 n2 fn2 n3 fn3 n4 fn4
    replace Hx := Lib.hid (Hx.out.below hbn)
    replace Hy := Lib.hid (Hy.out.below hbn)
    replace Hr := Lib.hid (Hr.out.below hbn)
    replace Hn := Lib.hid (Hn.out.below hbn)
    have x0 : w6.cell? ⟨w.heap.size, 0, none⟩ = some (.bool false) := Hx.out.cell 0
    have fx0 : w6.frozen? ⟨w.heap.size, 0, none⟩ = false := Hx.out.free 0
    have x1 : w6.cell? ⟨w.heap.size, 1, none⟩ = some (.string (bs [])) := Hx.out.cell 1
    have fx1 : w6.frozen? ⟨w.heap.size, 1, none⟩ = false := Hx.out.free 1
    have x2 : w6.cell? ⟨w.heap.size, 2, none⟩ = some (.int .i64 0) := Hx.out.cell 2
    have fx2 : w6.frozen? ⟨w.heap.size, 2, none⟩ = false := Hx.out.free 2
    have y0 : w6.cell? ⟨w.heap.size + 1, 0, none⟩ = some (.bool q) := Hy.out.cell 0
    have fy0 : w6.frozen? ⟨w.heap.size + 1, 0, none⟩ = false := Hy.out.free 0
    have y1 : w6.cell? ⟨w.heap.size + 1, 1, none⟩ = some (.string (bs b)) := Hy.out.cell 1
    have fy1 : w6.frozen? ⟨w.heap.size + 1, 1, none⟩ = false := Hy.out.free 1
    have y2 : w6.cell? ⟨w.heap.size + 1, 2, none⟩ = some (.int .i64 g) := Hy.out.cell 2
    have fy2 : w6.frozen? ⟨w.heap.size + 1, 2, none⟩ = false := Hy.out.free 2
    have r0 : w6.cell? ⟨w.heap.size + 1 + 1, 0, none⟩ = some (.int .i64 0) := Hr.out.cell 0
    have fr0 : w6.frozen? ⟨w.heap.size + 1 + 1, 0, none⟩ = false := Hr.out.free 0
    have r1 : w6.cell? ⟨w.heap.size + 1 + 1, 1, none⟩ = some (.bool false) := Hr.out.cell 1
    have fr1 : w6.frozen? ⟨w.heap.size + 1 + 1, 1, none⟩ = false := Hr.out.free 1
    have r2 : w6.cell? ⟨w.heap.size + 1 + 1, 2, none⟩ = some (.string (bs [])) := Hr.out.cell 2
    have fr2 : w6.frozen? ⟨w.heap.size + 1 + 1, 2, none⟩ = false := Hr.out.free 2
    have r3 : w6.cell? ⟨w.heap.size + 1 + 1, 3, none⟩ = some (.bool false) := Hr.out.cell 3
    have fr3 : w6.frozen? ⟨w.heap.size + 1 + 1, 3, none⟩ = false := Hr.out.free 3
    have r4 : w6.cell? ⟨w.heap.size + 1 + 1, 4, none⟩ = some (.string (bs [])) := Hr.out.cell 4
    have fr4 : w6.frozen? ⟨w.heap.size + 1 + 1, 4, none⟩ = false := Hr.out.free 4
    have n0 : w6.cell? ⟨w4.heap.size, 0, none⟩ = some (.int .i64 g) := Hn.out.cell 0
    have fn0 : w6.frozen? ⟨w4.heap.size, 0, none⟩ = false := Hn.out.free 0
    have n1 : w6.cell? ⟨w4.heap.size, 1, none⟩ = some (.bool false) := Hn.out.cell 1
    have fn1 : w6.frozen? ⟨w4.heap.size, 1, none⟩ = false := Hn.out.free 1
    have n2 : w6.cell? ⟨w4.heap.size, 2, none⟩ = some (.string (bs [])) := Hn.out.cell 2
    have fn2 : w6.frozen? ⟨w4.heap.size, 2, none⟩ = false := Hn.out.free 2
    have n3 : w6.cell? ⟨w4.heap.size, 3, none⟩ = some (.bool false) := Hn.out.cell 3
    have fn3 : w6.frozen? ⟨w4.heap.size, 3, none⟩ = false := Hn.out.free 3
    have n4 : w6.cell? ⟨w4.heap.size, 4, none⟩ = some (.string (bs [])) := Hn.out.cell 4
    have fn4 : w6.frozen? ⟨w4.heap.size, 4, none⟩ = false := Hn.out.free 4
    replace Hb := Lib.hid (bnext Hb.out hbn); clear hbn
    refine hK _ _ (fun _ => ⟨x0, x1, x2, y0, y1, y2, n0⟩) ?_; clear hK K
    try simp only [Act.put, List.setIfInBounds_toArray, List.set_cons_zero, List.set_cons_succ]
    refine planT rfl rfl (v := ?_) (fun w' hw' => ?_) ?_; rotate_left; focus (go_simp; try with_reducible rfl)
    try simp only [Act.put, List.setIfInBounds_toArray, List.set_cons_zero, List.set_cons_succ]
    refine planF rfl rfl (fun K hK => ?_)
    go_simp
    with_reducible refine (on_any q b g g Y HY.out _ Lb.out Hgj.out (by first | exact (hT.below Hb.out) | exact Tab.drew (hT.below Hb.out) | exact Tab.alloc (hT.below Hb.out) _ | exact Tab.drew (Tab.alloc (hT.below Hb.out) _) | exact Tab.alloc (Tab.drew (hT.below Hb.out)) _)).mono ?_
    rintro e w7 ⟨rfl, hq⟩
    have hbn : Below w6.heap.size w6 w7 := (by first | exact hq | exact bundrew hq); clear hq
    clear x0 fx0 x1 fx1 x2 fx2
    clear y0 fy0 y1 fy1 y2 fy2
    clear r0 fr0 r1 fr1 r2 fr2 r3 fr3 r4 fr4
    clear n0 fn0 n1 fn1 n2 fn2 n3 fn3 n4 fn4
    replace Hx := Lib.hid (Hx.out.below hbn)
    replace Hy := Lib.hid (Hy.out.below hbn)
    replace Hr := Lib.hid (Hr.out.below hbn)
    replace Hn := Lib.hid (Hn.out.below hbn)
    have x0 : w7.cell? ⟨w.heap.size, 0, none⟩ = some (.bool false) := Hx.out.cell 0
    have fx0 : w7.frozen? ⟨w.heap.size, 0, none⟩ = false := Hx.out.free 0
    have x1 : w7.cell? ⟨w.heap.size, 1, none⟩ = some (.string (bs [])) := Hx.out.cell 1
    have fx1 : w7.frozen? ⟨w.heap.size, 1, none⟩ = false := Hx.out.free 1
    have x2 : w7.cell? ⟨w.heap.size, 2, none⟩ = some (.int .i64 0) := Hx.out.cell 2
    have fx2 : w7.frozen? ⟨w.heap.size, 2, none⟩ = false := Hx.out.free 2
    have y0 : w7.cell? ⟨w.heap.size + 1, 0, none⟩ = some (.bool q) := Hy.out.cell 0
    have fy0 : w7.frozen? ⟨w.heap.size + 1, 0, none⟩ = false := Hy.out.free 0
    have y1 : w7.cell? ⟨w.heap.size + 1, 1, none⟩ = some (.string (bs b)) := Hy.out.cell 1
    have fy1 : w7.frozen? ⟨w.heap.size + 1, 1, none⟩ = false := Hy.out.free 1
    have y2 : w7.cell? ⟨w.heap.size + 1, 2, none⟩ = some (.int .i64 g) := Hy.out.cell 2
    have fy2 : w7.frozen? ⟨w.heap.size + 1, 2, none⟩ = false := Hy.out.free 2
    have r0 : w7.cell? ⟨w.heap.size + 1 + 1, 0, none⟩ = some (.int .i64 0) := Hr.out.cell 0
    have fr0 : w7.frozen? ⟨w.heap.size + 1 + 1, 0, none⟩ = false := Hr.out.free 0
    have r1 : w7.cell? ⟨w.heap.size + 1 + 1, 1, none⟩ = some (.bool false) := Hr.out.cell 1
    have fr1 : w7.frozen? ⟨w.heap.size + 1 + 1, 1, none⟩ = false := Hr.out.free 1
    have r2 : w7.cell? ⟨w.heap.size + 1 + 1, 2, none⟩ = some (.string (bs [])) := Hr.out.cell 2
    have fr2 : w7.frozen? ⟨w.heap.size + 1 + 1, 2, none⟩ = false := Hr.out.free 2
    have r3 : w7.cell? ⟨w.heap.size + 1 + 1, 3, none⟩ = some (.bool false) := Hr.out.cell 3
    have fr3 : w7.frozen? ⟨w.heap.size + 1 + 1, 3, none⟩ = false := Hr.out.free 3
    have r4 : w7.cell? ⟨w.heap.size + 1 + 1, 4, none⟩ = some (.string (bs [])) := Hr.out.cell 4
    have fr4 : w7.frozen? ⟨w.heap.size + 1 + 1, 4, none⟩ = false := Hr.out.free 4
    have n0 : w7.cell? ⟨w4.heap.size, 0, none⟩ = some (.int .i64 g) := Hn.out.cell 0
    have fn0 : w7.frozen? ⟨w4.heap.size, 0, none⟩ = false := Hn.out.free 0
    have n1 : w7.cell? ⟨w4.heap.size, 1, none⟩ = some (.bool false) := Hn.out.cell 1
    have fn1 : w7.frozen? ⟨w4.heap.size, 1, none⟩ = false := Hn.out.free 1
    have n2 : w7.cell? ⟨w4.heap.size, 2, none⟩ = some (.string (bs [])) := Hn.out.cell 2
    have fn2 : w7.frozen? ⟨w4.heap.size, 2, none⟩ = false := Hn.out.free 2
    have n3 : w7.cell? ⟨w4.heap.size, 3, none⟩ = some (.bool false) := Hn.out.cell 3
    have fn3 : w7.frozen? ⟨w4.heap.size, 3, none⟩ = false := Hn.out.free 3
    have n4 : w7.cell? ⟨w4.heap.size, 4, none⟩ = some (.string (bs [])) := Hn.out.cell 4
    have fn4 : w7.frozen? ⟨w4.heap.size, 4, none⟩ = false := Hn.out.free 4
    replace Hb := Lib.hid (bnext Hb.out hbn); clear hbn
    refine hK _ _ (fun _ => ⟨x0, x1, x2, y0, y1, y2, n0⟩) ?_; clear hK K
    try simp only [Act.put, List.setIfInBounds_toArray, List.set_cons_zero, List.set_cons_succ]
    refine planF rfl rfl (fun K hK => ?_)
    go_simp
    refine hK _ _ (fun _ => ⟨(cell_set_at (by first | (dsimp only; omega) | (simp <;> omega)) (cell_set_at (by first | (dsimp only; omega) | (simp <;> omega)) x0)), (cell_set_at (by first | (dsimp only; omega) | (simp <;> omega)) (cell_set_at (by first | (dsimp only; omega) | (simp <;> omega)) x1)), (cell_set_at (by first | (dsimp only; omega) | (simp <;> omega)) (cell_set_at (by first | (dsimp only; omega) | (simp <;> omega)) x2)), (cell_set_at (by first | (dsimp only; omega) | (simp <;> omega)) (cell_set_at (by first | (dsimp only; omega) | (simp <;> omega)) y0)), (cell_set_at (by first | (dsimp only; omega) | (simp <;> omega)) (cell_set_at (by first | (dsimp only; omega) | (simp <;> omega)) y1)), (cell_set_at (by first | (dsimp only; omega) | (simp <;> omega)) (cell_set_at (by first | (dsimp only; omega) | (simp <;> omega)) y2)), (cell_set_at (by first | (dsimp only; omega) | (simp <;> omega)) (cell_set_at (by first | (dsimp only; omega) | (simp <;> omega)) n0))⟩) ?_; clear hK K
    try simp only [Act.put, List.setIfInBounds_toArray, List.set_cons_zero, List.set_cons_succ]
    clear x0 fx0 x1 fx1 x2 fx2
    clear y0 fy0 y1 fy1 y2 fy2
    clear r0 fr0 r1 fr1 r2 fr2 r3 fr3 r4 fr4
    clear n0 fn0 n1 fn1 n2 fn2 n3 fn3 n4 fn4
    refine plan_world (fun w8 => Blk w8 (w.heap.size) 36 [.bool false, .string (bs []), .int .i64 0] ∧ Blk w8 (w.heap.size + 1) 36 [.bool q, .string (bs b), .int .i64 g] ∧ Blk w8 (w.heap.size + 1 + 1) 99 [.int .i64 0, .bool false, .string (bs []), .bool false, .string (bs [])] ∧ Blk w8 (w4.heap.size) 99 [.int .i64 g, .bool (sgnB X), .string (bs (nt X.natAbs)), .bool false, .string (bs [])] ∧ Below w.heap.size w w8) (by first | exact ⟨((Hx.out.set_other ⟨w4.heap.size, 1, none⟩ (by first | (dsimp only; omega) | (simp <;> omega)) _).set_other ⟨w4.heap.size, 2, none⟩ (by first | (dsimp only; omega) | (simp <;> omega)) _), ((Hy.out.set_other ⟨w4.heap.size, 1, none⟩ (by first | (dsimp only; omega) | (simp <;> omega)) _).set_other ⟨w4.heap.size, 2, none⟩ (by first | (dsimp only; omega) | (simp <;> omega)) _), ((Hr.out.set_other ⟨w4.heap.size, 1, none⟩ (by first | (dsimp only; omega) | (simp <;> omega)) _).set_other ⟨w4.heap.size, 2, none⟩ (by first | (dsimp only; omega) | (simp <;> omega)) _), ((Hn.out.set 1 _).set 2 _), ((Hb.out.setCell (p := ⟨w4.heap.size, 1, none⟩) (by have := Hb.out.size; first | (dsimp only; omega) | (simp <;> omega)) _).setCell (p := ⟨w4.heap.size, 2, none⟩) (by have := Hb.out.size; first | (dsimp only; omega) | (simp <;> omega)) _)⟩ | exact ⟨((Hx.out.set_other ⟨w4.heap.size, 1, none⟩ (by first | (dsimp only; omega) | (simp <;> omega)) _).set_other ⟨w4.heap.size, 2, none⟩ (by first | (dsimp only; omega) | (simp <;> omega)) _), ((Hy.out.set_other ⟨w4.heap.size, 1, none⟩ (by first | (dsimp only; omega) | (simp <;> omega)) _).set_other ⟨w4.heap.size, 2, none⟩ (by first | (dsimp only; omega) | (simp <;> omega)) _), ((Hr.out.set_other ⟨w4.heap.size, 1, none⟩ (by first | (dsimp only; omega) | (simp <;> omega)) _).set_other ⟨w4.heap.size, 2, none⟩ (by first | (dsimp only; omega) | (simp <;> omega)) _), ((Hn.out.set 1 _).set 2 _), Below.drew ((Hb.out.setCell (p := ⟨w4.heap.size, 1, none⟩) (by have := Hb.out.size; first | (dsimp only; omega) | (simp <;> omega)) _).setCell (p := ⟨w4.heap.size, 2, none⟩) (by have := Hb.out.size; first | (dsimp only; omega) | (simp <;> omega)) _)⟩) ?_
    rintro w8 ⟨qx, qy, qr, qn, hbn⟩
    replace Hx := Lib.hid qx; clear qx
    replace Hy := Lib.hid qy; clear qy
    replace Hr := Lib.hid qr; clear qr
    replace Hn := Lib.hid qn; clear qn
    have x0 : w8.cell? ⟨w.heap.size, 0, none⟩ = some (.bool false) := Hx.out.cell 0
    have fx0 : w8.frozen? ⟨w.heap.size, 0, none⟩ = false := Hx.out.free 0
    have x1 : w8.cell? ⟨w.heap.size, 1, none⟩ = some (.string (bs [])) := Hx.out.cell 1
    have fx1 : w8.frozen? ⟨w.heap.size, 1, none⟩ = false := Hx.out.free 1
    have x2 : w8.cell? ⟨w.heap.size, 2, none⟩ = some (.int .i64 0) := Hx.out.cell 2
    have fx2 : w8.frozen? ⟨w.heap.size, 2, none⟩ = false := Hx.out.free 2
    have y0 : w8.cell? ⟨w.heap.size + 1, 0, none⟩ = some (.bool q) := Hy.out.cell 0
    have fy0 : w8.frozen? ⟨w.heap.size + 1, 0, none⟩ = false := Hy.out.free 0
    have y1 : w8.cell? ⟨w.heap.size + 1, 1, none⟩ = some (.string (bs b)) := Hy.out.cell 1
    have fy1 : w8.frozen? ⟨w.heap.size + 1, 1, none⟩ = false := Hy.out.free 1
    have y2 : w8.cell? ⟨w.heap.size + 1, 2, none⟩ = some (.int .i64 g) := Hy.out.cell 2
    have fy2 : w8.frozen? ⟨w.heap.size + 1, 2, none⟩ = false := Hy.out.free 2
    have r0 : w8.cell? ⟨w.heap.size + 1 + 1, 0, none⟩ = some (.int .i64 0) := Hr.out.cell 0
    have fr0 : w8.frozen? ⟨w.heap.size + 1 + 1, 0, none⟩ = false := Hr.out.free 0
    have r1 : w8.cell? ⟨w.heap.size + 1 + 1, 1, none⟩ = some (.bool false) := Hr.out.cell 1
    have fr1 : w8.frozen? ⟨w.heap.size + 1 + 1, 1, none⟩ = false := Hr.out.free 1
    have r2 : w8.cell? ⟨w.heap.size + 1 + 1, 2, none⟩ = some (.string (bs [])) := Hr.out.cell 2
    have fr2 : w8.frozen? ⟨w.heap.size + 1 + 1, 2, none⟩ = false := Hr.out.free 2
    have r3 : w8.cell? ⟨w.heap.size + 1 + 1, 3, none⟩ = some (.bool false) := Hr.out.cell 3
    have fr3 : w8.frozen? ⟨w.heap.size + 1 + 1, 3, none⟩ = false := Hr.out.free 3
    have r4 : w8.cell? ⟨w.heap.size + 1 + 1, 4, none⟩ = some (.string (bs [])) := Hr.out.cell 4
    have fr4 : w8.frozen? ⟨w.heap.size + 1 + 1, 4, none⟩ = false := Hr.out.free 4
    have n0 : w8.cell? ⟨w4.heap.size, 0, none⟩ = some (.int .i64 g) := Hn.out.cell 0
    have fn0 : w8.frozen? ⟨w4.heap.size, 0, none⟩ = false := Hn.out.free 0
    have n1 : w8.cell? ⟨w4.heap.size, 1, none⟩ = some (.bool (sgnB X)) := Hn.out.cell 1
    have fn1 : w8.frozen? ⟨w4.heap.size, 1, none⟩ = false := Hn.out.free 1
    have n2 : w8.cell? ⟨w4.heap.size, 2, none⟩ = some (.string (bs (nt X.natAbs))) := Hn.out.cell 2
    have fn2 : w8.frozen? ⟨w4.heap.size, 2, none⟩ = false := Hn.out.free 2
    have n3 : w8.cell? ⟨w4.heap.size, 3, none⟩ = some (.bool false) := Hn.out.cell 3
    have fn3 : w8.frozen? ⟨w4.heap.size, 3, none⟩ = false := Hn.out.free 3
    have n4 : w8.cell? ⟨w4.heap.size, 4, none⟩ = some (.string (bs [])) := Hn.out.cell 4
    have fn4 : w8.frozen? ⟨w4.heap.size, 4, none⟩ = false := Hn.out.free 4
    replace Hb := Lib.hid hbn; clear hbn
    refine planT rfl rfl (v := ?_) (fun w' hw' => ?_) ?_; rotate_left; focus (go_simp; try with_reducible rfl)
    try simp only [Act.put, List.setIfInBounds_toArray, List.set_cons_zero, List.set_cons_succ]
    refine planF rfl rfl (fun K hK => ?_)
    go_simp
    refine hK _ _ (fun h => absurd h (by decide)) ?_; clear hK K
    try simp only [Act.put, List.setIfInBounds_toArray, List.set_cons_zero, List.set_cons_succ]
    clear x0 fx0 x1 fx1 x2 fx2
    clear y0 fy0 y1 fy1 y2 fy2
    clear r0 fr0 r1 fr1 r2 fr2 r3 fr3 r4 fr4
    clear n0 fn0 n1 fn1 n2 fn2 n3 fn3 n4 fn4
    refine plan_world (fun w9 => Blk w9 (w.heap.size) 36 [.bool false, .string (bs []), .int .i64 0] ∧ Blk w9 (w.heap.size + 1) 36 [.bool q, .string (bs b), .int .i64 g] ∧ Blk w9 (w.heap.size + 1 + 1) 99 [.int .i64 0, .bool false, .string (bs []), .bool false, .string (bs [])] ∧ Blk w9 (w4.heap.size) 99 [.int .i64 g, .bool (sgnB X), .string (bs (nt X.natAbs)), .bool (sgnB Y), .string (bs (nt Y.natAbs))] ∧ Below w.heap.size w w9) (by first | exact ⟨((Hx.out.set_other ⟨w4.heap.size, 3, none⟩ (by first | (dsimp only; omega) | (simp <;> omega)) _).set_other ⟨w4.heap.size, 4, none⟩ (by first | (dsimp only; omega) | (simp <;> omega)) _), ((Hy.out.set_other ⟨w4.heap.size, 3, none⟩ (by first | (dsimp only; omega) | (simp <;> omega)) _).set_other ⟨w4.heap.size, 4, none⟩ (by first | (dsimp only; omega) | (simp <;> omega)) _), ((Hr.out.set_other ⟨w4.heap.size, 3, none⟩ (by first | (dsimp only; omega) | (simp <;> omega)) _).set_other ⟨w4.heap.size, 4, none⟩ (by first | (dsimp only; omega) | (simp <;> omega)) _), ((Hn.out.set 3 _).set 4 _), ((Hb.out.setCell (p := ⟨w4.heap.size, 3, none⟩) (by have := Hb.out.size; first | (dsimp only; omega) | (simp <;> omega)) _).setCell (p := ⟨w4.heap.size, 4, none⟩) (by have := Hb.out.size; first | (dsimp only; omega) | (simp <;> omega)) _)⟩ | exact ⟨((Hx.out.set_other ⟨w4.heap.size, 3, none⟩ (by first | (dsimp only; omega) | (simp <;> omega)) _).set_other ⟨w4.heap.size, 4, none⟩ (by first | (dsimp only; omega) | (simp <;> omega)) _), ((Hy.out.set_other ⟨w4.heap.size, 3, none⟩ (by first | (dsimp only; omega) | (simp <;> omega)) _).set_other ⟨w4.heap.size, 4, none⟩ (by first | (dsimp only; omega) | (simp <;> omega)) _), ((Hr.out.set_other ⟨w4.heap.size, 3, none⟩ (by first | (dsimp only; omega) | (simp <;> omega)) _).set_other ⟨w4.heap.size, 4, none⟩ (by first | (dsimp only; omega) | (simp <;> omega)) _), ((Hn.out.set 3 _).set 4 _), Below.drew ((Hb.out.setCell (p := ⟨w4.heap.size, 3, none⟩) (by have := Hb.out.size; first | (dsimp only; omega) | (simp <;> omega)) _).setCell (p := ⟨w4.heap.size, 4, none⟩) (by have := Hb.out.size; first | (dsimp only; omega) | (simp <;> omega)) _)⟩) ?_
    rintro w9 ⟨qx, qy, qr, qn, hbn⟩
    replace Hx := Lib.hid qx; clear qx
    replace Hy := Lib.hid qy; clear qy
    replace Hr := Lib.hid qr; clear qr
    replace Hn := Lib.hid qn; clear qn
    have x0 : w9.cell? ⟨w.heap.size, 0, none⟩ = some (.bool false) := Hx.out.cell 0
    have fx0 : w9.frozen? ⟨w.heap.size, 0, none⟩ = false := Hx.out.free 0
    have x1 : w9.cell? ⟨w.heap.size, 1, none⟩ = some (.string (bs [])) := Hx.out.cell 1
    have fx1 : w9.frozen? ⟨w.heap.size, 1, none⟩ = false := Hx.out.free 1
    have x2 : w9.cell? ⟨w.heap.size, 2, none⟩ = some (.int .i64 0) := Hx.out.cell 2
    have fx2 : w9.frozen? ⟨w.heap.size, 2, none⟩ = false := Hx.out.free 2
    have y0 : w9.cell? ⟨w.heap.size + 1, 0, none⟩ = some (.bool q) := Hy.out.cell 0
    have fy0 : w9.frozen? ⟨w.heap.size + 1, 0, none⟩ = false := Hy.out.free 0
    have y1 : w9.cell? ⟨w.heap.size + 1, 1, none⟩ = some (.string (bs b)) := Hy.out.cell 1
    have fy1 : w9.frozen? ⟨w.heap.size + 1, 1, none⟩ = false := Hy.out.free 1
    have y2 : w9.cell? ⟨w.heap.size + 1, 2, none⟩ = some (.int .i64 g) := Hy.out.cell 2
    have fy2 : w9.frozen? ⟨w.heap.size + 1, 2, none⟩ = false := Hy.out.free 2
    have r0 : w9.cell? ⟨w.heap.size + 1 + 1, 0, none⟩ = some (.int .i64 0) := Hr.out.cell 0
    have fr0 : w9.frozen? ⟨w.heap.size + 1 + 1, 0, none⟩ = false := Hr.out.free 0
    have r1 : w9.cell? ⟨w.heap.size + 1 + 1, 1, none⟩ = some (.bool false) := Hr.out.cell 1
    have fr1 : w9.frozen? ⟨w.heap.size + 1 + 1, 1, none⟩ = false := Hr.out.free 1
    have r2 : w9.cell? ⟨w.heap.size + 1 + 1, 2, none⟩ = some (.string (bs [])) := Hr.out.cell 2
    have fr2 : w9.frozen? ⟨w.heap.size + 1 + 1, 2, none⟩ = false := Hr.out.free 2
    have r3 : w9.cell? ⟨w.heap.size + 1 + 1, 3, none⟩ = some (.bool false) := Hr.out.cell 3
    have fr3 : w9.frozen? ⟨w.heap.size + 1 + 1, 3, none⟩ = false := Hr.out.free 3
    have r4 : w9.cell? ⟨w.heap.size + 1 + 1, 4, none⟩ = some (.string (bs [])) := Hr.out.cell 4
    have fr4 : w9.frozen? ⟨w.heap.size + 1 + 1, 4, none⟩ = false := Hr.out.free 4
    have n0 : w9.cell? ⟨w4.heap.size, 0, none⟩ = some (.int .i64 g) := Hn.out.cell 0
    have fn0 : w9.frozen? ⟨w4.heap.size, 0, none⟩ = false := Hn.out.free 0
    have n1 : w9.cell? ⟨w4.heap.size, 1, none⟩ = some (.bool (sgnB X)) := Hn.out.cell 1
    have fn1 : w9.frozen? ⟨w4.heap.size, 1, none⟩ = false := Hn.out.free 1
    have n2 : w9.cell? ⟨w4.heap.size, 2, none⟩ = some (.string (bs (nt X.natAbs))) := Hn.out.cell 2
    have fn2 : w9.frozen? ⟨w4.heap.size, 2, none⟩ = false := Hn.out.free 2
    have n3 : w9.cell? ⟨w4.heap.size, 3, none⟩ = some (.bool (sgnB Y)) := Hn.out.cell 3
    have fn3 : w9.frozen? ⟨w4.heap.size, 3, none⟩ = false := Hn.out.free 3
    have n4 : w9.cell? ⟨w4.heap.size, 4, none⟩ = some (.string (bs (nt Y.natAbs))) := Hn.out.cell 4
    have fn4 : w9.frozen? ⟨w4.heap.size, 4, none⟩ = false := Hn.out.free 4
    replace Hb := Lib.hid hbn; clear hbn
    simp only [wpPlan]
    go_wp2
    refine bodyPost_ret (v := .agg #[.int .i64 g, .bool (sgnB X), .string (bs (nt X.natAbs)), .bool (sgnB Y), .string (bs (nt Y.natAbs))]) (by simp [results, Tryz.results49, go_sem, r0, r1, r2, r3, r4]) rfl ⟨rfl, ?_⟩
    (repeat first | exact Hb.out | (refine Below.setCell ?_ (by have := Hb.out.size; first | (dsimp only; omega) | (show _ ≤ _; omega) | (simp <;> omega)) _) | (refine Below.alloc ?_ (by have := Hb.out.size; simp <;> omega) _) | refine Below.drew ?_)
  · obtain ⟨rfl, rfl, rfl⟩ := zB h3
    subst h2
    have z1 : (bs []).toList = [] := bs_toList _
    have z2 : ¬ (bs a).toList = [] := by rw [bs_toList]; exact nA h1
    clear zA zB nA nB pA pB
    have x0 : w4.cell? ⟨w.heap.size, 0, none⟩ = some (.bool p) := Hx.out.cell 0
    have fx0 : w4.frozen? ⟨w.heap.size, 0, none⟩ = false := Hx.out.free 0
    have x1 : w4.cell? ⟨w.heap.size, 1, none⟩ = some (.string (bs a)) := Hx.out.cell 1
    have fx1 : w4.frozen? ⟨w.heap.size, 1, none⟩ = false := Hx.out.free 1
    have x2 : w4.cell? ⟨w.heap.size, 2, none⟩ = some (.int .i64 g) := Hx.out.cell 2
    have fx2 : w4.frozen? ⟨w.heap.size, 2, none⟩ = false := Hx.out.free 2
    have y0 : w4.cell? ⟨w.heap.size + 1, 0, none⟩ = some (.bool false) := Hy.out.cell 0
    have fy0 : w4.frozen? ⟨w.heap.size + 1, 0, none⟩ = false := Hy.out.free 0
    have y1 : w4.cell? ⟨w.heap.size + 1, 1, none⟩ = some (.string (bs [])) := Hy.out.cell 1
    have fy1 : w4.frozen? ⟨w.heap.size + 1, 1, none⟩ = false := Hy.out.free 1
    have y2 : w4.cell? ⟨w.heap.size + 1, 2, none⟩ = some (.int .i64 0) := Hy.out.cell 2
    have fy2 : w4.frozen? ⟨w.heap.size + 1, 2, none⟩ = false := Hy.out.free 2
    have r0 : w4.cell? ⟨w.heap.size + 1 + 1, 0, none⟩ = some (.int .i64 0) := Hr.out.cell 0
    have fr0 : w4.frozen? ⟨w.heap.size + 1 + 1, 0, none⟩ = false := Hr.out.free 0
    have r1 : w4.cell? ⟨w.heap.size + 1 + 1, 1, none⟩ = some (.bool false) := Hr.out.cell 1
    have fr1 : w4.frozen? ⟨w.heap.size + 1 + 1, 1, none⟩ = false := Hr.out.free 1
    have r2 : w4.cell? ⟨w.heap.size + 1 + 1, 2, none⟩ = some (.string (bs [])) := Hr.out.cell 2
    have fr2 : w4.frozen? ⟨w.heap.size + 1 + 1, 2, none⟩ = false := Hr.out.free 2
    have r3 : w4.cell? ⟨w.heap.size + 1 + 1, 3, none⟩ = some (.bool false) := Hr.out.cell 3
    have fr3 : w4.frozen? ⟨w.heap.size + 1 + 1, 3, none⟩ = false := Hr.out.free 3
    have r4 : w4.cell? ⟨w.heap.size + 1 + 1, 4, none⟩ = some (.string (bs [])) := Hr.out.cell 4
    have fr4 : w4.frozen? ⟨w.heap.size + 1 + 1, 4, none⟩ = false := Hr.out.free 4
    have lz_x_W5 : w.heap.size < w4.heap.size := Hx.out.lt
    have lz_y_W5 : w.heap.size + 1 < w4.heap.size := Hy.out.lt
    have lz_r_W5 : w.heap.size + 1 + 1 < w4.heap.size := Hr.out.lt
    go_wp2_with fail
    first | refine wp_world (fun W5 => Blk W5 (w4.heap.size) 99 [.int .i64 g, .bool false, .string (bs []), .bool false, .string (bs [])] ∧ Below w4.heap.size w4 W5) ?hR ?_ | refine calls_world (fun W5 => Blk W5 (w4.heap.size) 99 [.int .i64 g, .bool false, .string (bs []), .bool false, .string (bs [])] ∧ Below w4.heap.size w4 W5) ?hR ?_
    case hR => exact ⟨(Blk.newAt w4 _ _ (b := w4.heap.size) rfl), ((Below.refl _ _).alloc (Nat.le_refl _) _)⟩
    rintro W5 ⟨qn, hbn⟩
    have Hn := Lib.hid qn; clear qn
    clear x0 fx0 x1 fx1 x2 fx2
    replace Hx := Lib.hid (Hx.out.below hbn)
    have x0 : W5.cell? ⟨w.heap.size, 0, none⟩ = some (.bool p) := Hx.out.cell 0
    have fx0 : W5.frozen? ⟨w.heap.size, 0, none⟩ = false := Hx.out.free 0
    have x1 : W5.cell? ⟨w.heap.size, 1, none⟩ = some (.string (bs a)) := Hx.out.cell 1
    have fx1 : W5.frozen? ⟨w.heap.size, 1, none⟩ = false := Hx.out.free 1
    have x2 : W5.cell? ⟨w.heap.size, 2, none⟩ = some (.int .i64 g) := Hx.out.cell 2
    have fx2 : W5.frozen? ⟨w.heap.size, 2, none⟩ = false := Hx.out.free 2
    clear y0 fy0 y1 fy1 y2 fy2
    replace Hy := Lib.hid (Hy.out.below hbn)
    have y0 : W5.cell? ⟨w.heap.size + 1, 0, none⟩ = some (.bool false) := Hy.out.cell 0
    have fy0 : W5.frozen? ⟨w.heap.size + 1, 0, none⟩ = false := Hy.out.free 0
    have y1 : W5.cell? ⟨w.heap.size + 1, 1, none⟩ = some (.string (bs [])) := Hy.out.cell 1
    have fy1 : W5.frozen? ⟨w.heap.size + 1, 1, none⟩ = false := Hy.out.free 1
    have y2 : W5.cell? ⟨w.heap.size + 1, 2, none⟩ = some (.int .i64 0) := Hy.out.cell 2
    have fy2 : W5.frozen? ⟨w.heap.size + 1, 2, none⟩ = false := Hy.out.free 2
    clear r0 fr0 r1 fr1 r2 fr2 r3 fr3 r4 fr4
    replace Hr := Lib.hid (Hr.out.below hbn)
    have r0 : W5.cell? ⟨w.heap.size + 1 + 1, 0, none⟩ = some (.int .i64 0) := Hr.out.cell 0
    have fr0 : W5.frozen? ⟨w.heap.size + 1 + 1, 0, none⟩ = false := Hr.out.free 0
    have r1 : W5.cell? ⟨w.heap.size + 1 + 1, 1, none⟩ = some (.bool false) := Hr.out.cell 1
    have fr1 : W5.frozen? ⟨w.heap.size + 1 + 1, 1, none⟩ = false := Hr.out.free 1
    have r2 : W5.cell? ⟨w.heap.size + 1 + 1, 2, none⟩ = some (.string (bs [])) := Hr.out.cell 2
    have fr2 : W5.frozen? ⟨w.heap.size + 1 + 1, 2, none⟩ = false := Hr.out.free 2
    have r3 : W5.cell? ⟨w.heap.size + 1 + 1, 3, none⟩ = some (.bool false) := Hr.out.cell 3
    have fr3 : W5.frozen? ⟨w.heap.size + 1 + 1, 3, none⟩ = false := Hr.out.free 3
    have r4 : W5.cell? ⟨w.heap.size + 1 + 1, 4, none⟩ = some (.string (bs [])) := Hr.out.cell 4
    have fr4 : W5.frozen? ⟨w.heap.size + 1 + 1, 4, none⟩ = false := Hr.out.free 4
    have n0 : W5.cell? ⟨w4.heap.size, 0, none⟩ = some (.int .i64 g) := Hn.out.cell 0
    have fn0 : W5.frozen? ⟨w4.heap.size, 0, none⟩ = false := Hn.out.free 0
    have n1 : W5.cell? ⟨w4.heap.size, 1, none⟩ = some (.bool false) := Hn.out.cell 1
    have fn1 : W5.frozen? ⟨w4.heap.size, 1, none⟩ = false := Hn.out.free 1
    have n2 : W5.cell? ⟨w4.heap.size, 2, none⟩ = some (.string (bs [])) := Hn.out.cell 2
    have fn2 : W5.frozen? ⟨w4.heap.size, 2, none⟩ = false := Hn.out.free 2
    have n3 : W5.cell? ⟨w4.heap.size, 3, none⟩ = some (.bool false) := Hn.out.cell 3
    have fn3 : W5.frozen? ⟨w4.heap.size, 3, none⟩ = false := Hn.out.free 3
    have n4 : W5.cell? ⟨w4.heap.size, 4, none⟩ = some (.string (bs [])) := Hn.out.cell 4
    have fn4 : W5.frozen? ⟨w4.heap.size, 4, none⟩ = false := Hn.out.free 4
    replace Hb := Lib.hid (bnext Hb.out hbn); clear hbn
    have hns : w.heap.size + 1 + 1 < w4.heap.size := Hr4.out.lt
    refine wp_region_plan (fun w' => w'.cell? ⟨w.heap.size, 0, none⟩ = some (.bool p) ∧ w'.cell? ⟨w.heap.size, 1, none⟩ = some (.string (bs a)) ∧ w'.cell? ⟨w.heap.size, 2, none⟩ = some (.int .i64 g) ∧ w'.cell? ⟨w.heap.size + 1, 0, none⟩ = some (.bool false) ∧ w'.cell? ⟨w.heap.size + 1, 1, none⟩ = some (.string (bs [])) ∧ w'.cell? ⟨w.heap.size + 1, 2, none⟩ = some (.int .i64 0) ∧ w'.cell? ⟨w4.heap.size, 0, none⟩ = some (.int .i64 g)) (fun i => Nat.blt i 11) [(0, true), (1, true), (2, true), (4, true), (5, true), (6, true), (3, false), (8, true), (7, false), (9, false), (10, true), (11, false)] (by kernel_rfl) (by kernel_rfl) rfl (by kernel_rfl) (fun o c a v w => by cases o.dst <;> exact id) ⟨x0, x1, x2, y0, y1, y2, n0⟩ ?_
    refine planT rfl rfl (v := ?_) (fun w' hw' => ?_) ?_; rotate_left; focus (go_simp; try with_reducible rfl)
    try simp only [Act.put, List.setIfInBounds_toArray, List.set_cons_zero, List.set_cons_succ]
    refine planT rfl rfl (v := ?_) (fun w' hw' => ?_) ?_; rotate_left; focus (obtain ⟨q0, q1, q2, q3, q4, q5, q6⟩ := hw'; go_simp; try with_reducible rfl)
    try simp only [Act.put, List.setIfInBounds_toArray, List.set_cons_zero, List.set_cons_succ]
    refine planT rfl rfl (v := ?_) (fun w' hw' => ?_) ?_; rotate_left; focus (obtain ⟨q0, q1, q2, q3, q4, q5, q6⟩ := hw'; go_simp; try with_reducible rfl)
    try simp only [Act.put, List.setIfInBounds_toArray, List.set_cons_zero, List.set_cons_succ]
    refine planT rfl rfl (v := ?_) (fun w' hw' => ?_) ?_; rotate_left; focus (go_simp; try with_reducible rfl)
    try simp only [Act.put, List.setIfInBounds_toArray, List.set_cons_zero, List.set_cons_succ]
    refine planT rfl rfl (v := ?_) (fun w' hw' => ?_) ?_; rotate_left; focus (obtain ⟨q0, q1, q2, q3, q4, q5, q6⟩ := hw'; go_simp; try with_reducible rfl)
    try simp only [Act.put, List.setIfInBounds_toArray, List.set_cons_zero, List.set_cons_succ]
    refine planT rfl rfl (v := ?_) (fun w' hw' => ?_) ?_; rotate_left; focus (obtain ⟨q0, q1, q2, q3, q4, q5, q6⟩ := hw'; go_simp; try with_reducible rfl)
    try simp only [Act.put, List.setIfInBounds_toArray, List.set_cons_zero, List.set_cons_succ]
    refine planF rfl rfl (fun K hK => ?_)
    go_simp
    with_reducible refine (on_any p a g g X HX.out _ La.out Hgi.out (by first | exact (hT.below Hb.out) | exact Tab.drew (hT.below Hb.out) | exact Tab.alloc (hT.below Hb.out) _ | exact Tab.drew (Tab.alloc (hT.below Hb.out) _) | exact Tab.alloc (Tab.drew (hT.below Hb.out)) _)).mono ?_
    rintro e w6 ⟨rfl, hq⟩
    have hbn : Below W5.heap.size W5 w6 := (by first | exact hq | exact bundrew hq); clear hq
    clear x0 fx0 x1 fx1 x2 fx2
    clear y0 fy0 y1 fy1 y2 fy2
    clear r0 fr0 r1 fr1 r2 fr2 r3 fr3 r4 fr4
    clear n0 fn0 n1 fn1 n2 fn2 n3 fn3 n4 fn4
    replace Hx := Lib.hid (Hx.out.below hbn)
    replace Hy := Lib.hid (Hy.out.below hbn)
    replace Hr := Lib.hid (Hr.out.below hbn)
    replace Hn := Lib.hid (Hn.out.below hbn)
    have x0 : w6.cell? ⟨w.heap.size, 0, none⟩ = some (.bool p) := Hx.out.cell 0
    have fx0 : w6.frozen? ⟨w.heap.size, 0, none⟩ = false := Hx.out.free 0
    have x1 : w6.cell? ⟨w.heap.size, 1, none⟩ = some (.string (bs a)) := Hx.out.cell 1
    have fx1 : w6.frozen? ⟨w.heap.size, 1, none⟩ = false := Hx.out.free 1
    have x2 : w6.cell? ⟨w.heap.size, 2, none⟩ = some (.int .i64 g) := Hx.out.cell 2
    have fx2 : w6.frozen? ⟨w.heap.size, 2, none⟩ = false := Hx.out.free 2
    have y0 : w6.cell? ⟨w.heap.size + 1, 0, none⟩ = some (.bool false) := Hy.out.cell 0
    have fy0 : w6.frozen? ⟨w.heap.size + 1, 0, none⟩ = false := Hy.out.free 0
    have y1 : w6.cell? ⟨w.heap.size + 1, 1, none⟩ = some (.string (bs [])) := Hy.out.cell 1
    have fy1 : w6.frozen? ⟨w.heap.size + 1, 1, none⟩ = false := Hy.out.free 1
    have y2 : w6.cell? ⟨w.heap.size + 1, 2, none⟩ = some (.int .i64 0) := Hy.out.cell 2
    have fy2 : w6.frozen? ⟨w.heap.size + 1, 2, none⟩ = false := Hy.out.free 2
    have r0 : w6.cell? ⟨w.heap.size + 1 + 1, 0, none⟩ = some (.int .i64 0) := Hr.out.cell 0
    have fr0 : w6.frozen? ⟨w.heap.size + 1 + 1, 0, none⟩ = false := Hr.out.free 0
    have r1 : w6.cell? ⟨w.heap.size + 1 + 1, 1, none⟩ = some (.bool false) := Hr.out.cell 1
    have fr1 : w6.frozen? ⟨w.heap.size + 1 + 1, 1, none⟩ = false := Hr.out.free 1
    have r2 : w6.cell? ⟨w.heap.size + 1 + 1, 2, none⟩ = some (.string (bs [])) := Hr.out.cell 2
    have fr2 : w6.frozen? ⟨w.heap.size + 1 + 1, 2, none⟩ = false := Hr.out.free 2
    have r3 : w6.cell? ⟨w.heap.size + 1 + 1, 3, none⟩ = some (.bool false) := Hr.out.cell 3
    have fr3 : w6.frozen? ⟨w.heap.size + 1 + 1, 3, none⟩ = false := Hr.out.free 3
    have r4 : w6.cell? ⟨w.heap.size + 1 + 1, 4, none⟩ = some (.string (bs [])) := Hr.out.cell 4
    have fr4 : w6.frozen? ⟨w.heap.size + 1 + 1, 4, none⟩ = false := Hr.out.free 4
    have n0 : w6.cell? ⟨w4.heap.size, 0, none⟩ = some (.int .i64 g) := Hn.out.cell 0
    have fn0 : w6.frozen? ⟨w4.heap.size, 0, none⟩ = false := Hn.out.free 0
    have n1 : w6.cell? ⟨w4.heap.size, 1, none⟩ = some (.bool false) := Hn.out.cell 1
    have fn1 : w6.frozen? ⟨w4.heap.size, 1, none⟩ = false := Hn.out.free 1
    have n2 : w6.cell? ⟨w4.heap.size, 2, none⟩ = some (.string (bs [])) := Hn.out.cell 2
    have fn2 : w6.frozen? ⟨w4.heap.size, 2, none⟩ = false := Hn.out.free 2
    have n3 : w6.cell? ⟨w4.heap.size, 3, none⟩ = some (.bool false) := Hn.out.cell 3
    have fn3 : w6.frozen? ⟨w4.heap.size, 3, none⟩ = false := Hn.out.free 3
    have n4 : w6.cell? ⟨w4.heap.size, 4, none⟩ = some (.string (bs [])) := Hn.out.cell 4
    have fn4 : w6.frozen? ⟨w4.heap.size, 4, none⟩ = false := Hn.out.free 4
    replace Hb := Lib.hid (bnext Hb.out hbn); clear hbn
    refine hK _ _ (fun _ => ⟨x0, x1, x2, y0, y1, y2, n0⟩) ?_; clear hK K
    try simp only [Act.put, List.setIfInBounds_toArray, List.set_cons_zero, List.set_cons_succ]
    refine planT rfl rfl (v := ?_) (fun w' hw' => ?_) ?_; rotate_left; focus (go_simp; try with_reducible rfl)
    try simp only [Act.put, List.setIfInBounds_toArray, List.set_cons_zero, List.set_cons_succ]
    refine planF rfl rfl (fun K hK => ?_)
    go_simp
    with_reducible refine (on_any false [] 0 g Y HY.out _ Lb.out Hgj.out (by first | exact (hT.below Hb.out) | exact Tab.drew (hT.below Hb.out) | exact Tab.alloc (hT.below Hb.out) _ | exact Tab.drew (Tab.alloc (hT.below Hb.out) _) | exact Tab.alloc (Tab.drew (hT.below Hb.out)) _)).mono ?_
    rintro e w7 ⟨rfl, hq⟩
    have hbn : Below w6.heap.size w6 w7 := (by first | exact hq | exact bundrew hq); clear hq
    clear x0 fx0 x1 fx1 x2 fx2
    clear y0 fy0 y1 fy1 y2 fy2
    clear r0 fr0 r1 fr1 r2 fr2 r3 fr3 r4 fr4
    clear n0 fn0 n1 fn1 n2 fn2 n3 fn3 n4 fn4
    replace Hx := Lib.hid (Hx.out.below hbn)
    replace Hy := Lib.hid (Hy.out.below hbn)
    replace Hr := Lib.hid (Hr.out.below hbn)
    replace Hn := Lib.hid (Hn.out.below hbn)
    have x0 : w7.cell? ⟨w.heap.size, 0, none⟩ = some (.bool p) := Hx.out.cell 0
    have fx0 : w7.frozen? ⟨w.heap.size, 0, none⟩ = false := Hx.out.free 0
    have x1 : w7.cell? ⟨w.heap.size, 1, none⟩ = some (.string (bs a)) := Hx.out.cell 1
    have fx1 : w7.frozen? ⟨w.heap.size, 1, none⟩ = false := Hx.out.free 1
    have x2 : w7.cell? ⟨w.heap.size, 2, none⟩ = some (.int .i64 g) := Hx.out.cell 2
    have fx2 : w7.frozen? ⟨w.heap.size, 2, none⟩ = false := Hx.out.free 2
    have y0 : w7.cell? ⟨w.heap.size + 1, 0, none⟩ = some (.bool false) := Hy.out.cell 0
    have fy0 : w7.frozen? ⟨w.heap.size + 1, 0, none⟩ = false := Hy.out.free 0
    have y1 : w7.cell? ⟨w.heap.size + 1, 1, none⟩ = some (.string (bs [])) := Hy.out.cell 1
    have fy1 : w7.frozen? ⟨w.heap.size + 1, 1, none⟩ = false := Hy.out.free 1
    have y2 : w7.cell? ⟨w.heap.size + 1, 2, none⟩ = some (.int .i64 0) := Hy.out.cell 2
    have fy2 : w7.frozen? ⟨w.heap.size + 1, 2, none⟩ = false := Hy.out.free 2
    have r0 : w7.cell? ⟨w.heap.size + 1 + 1, 0, none⟩ = some (.int .i64 0) := Hr.out.cell 0
    have fr0 : w7.frozen? ⟨w.heap.size + 1 + 1, 0, none⟩ = false := Hr.out.free 0
    have r1 : w7.cell? ⟨w.heap.size + 1 + 1, 1, none⟩ = some (.bool false) := Hr.out.cell 1
    have fr1 : w7.frozen? ⟨w.heap.size + 1 + 1, 1, none⟩ = false := Hr.out.free 1
    have r2 : w7.cell? ⟨w.heap.size + 1 + 1, 2, none⟩ = some (.string (bs [])) := Hr.out.cell 2
    have fr2 : w7.frozen? ⟨w.heap.size + 1 + 1, 2, none⟩ = false := Hr.out.free 2
    have r3 : w7.cell? ⟨w.heap.size + 1 + 1, 3, none⟩ = some (.bool false) := Hr.out.cell 3
    have fr3 : w7.frozen? ⟨w.heap.size + 1 + 1, 3, none⟩ = false := Hr.out.free 3
    have r4 : w7.cell? ⟨w.heap.size + 1 + 1, 4, none⟩ = some (.string (bs [])) := Hr.out.cell 4
    have fr4 : w7.frozen? ⟨w.heap.size + 1 + 1, 4, none⟩ = false := Hr.out.free 4
    have n0 : w7.cell? ⟨w4.heap.size, 0, none⟩ = some (.int .i64 g) := Hn.out.cell 0
    have fn0 : w7.frozen? ⟨w4.heap.size, 0, none⟩ = false := Hn.out.free 0
    have n1 : w7.cell? ⟨w4.heap.size, 1, none⟩ = some (.bool false) := Hn.out.cell 1
    have fn1 : w7.frozen? ⟨w4.heap.size, 1, none⟩ = false := Hn.out.free 1
    have n2 : w7.cell? ⟨w4.heap.size, 2, none⟩ = some (.string (bs [])) := Hn.out.cell 2
    have fn2 : w7.frozen? ⟨w4.heap.size, 2, none⟩ = false := Hn.out.free 2
    have n3 : w7.cell? ⟨w4.heap.size, 3, none⟩ = some (.bool false) := Hn.out.cell 3
    have fn3 : w7.frozen? ⟨w4.heap.size, 3, none⟩ = false := Hn.out.free 3
    have n4 : w7.cell? ⟨w4.heap.size, 4, none⟩ = some (.string (bs [])) := Hn.out.cell 4
    have fn4 : w7.frozen? ⟨w4.heap.size, 4, none⟩ = false := Hn.out.free 4
    replace Hb := Lib.hid (bnext Hb.out hbn); clear hbn
    refine hK _ _ (fun _ => ⟨x0, x1, x2, y0, y1, y2, n0⟩) ?_; clear hK K
    try simp only [Act.put, List.setIfInBounds_toArray, List.set_cons_zero, List.set_cons_succ]
    refine planF rfl rfl (fun K hK => ?_)
    go_simp
    refine hK _ _ (fun _ => ⟨(cell_set_at (by first | (dsimp only; omega) | (simp <;> omega)) (cell_set_at (by first | (dsimp only; omega) | (simp <;> omega)) x0)), (cell_set_at (by first | (dsimp only; omega) | (simp <;> omega)) (cell_set_at (by first | (dsimp only; omega) | (simp <;> omega)) x1)), (cell_set_at (by first | (dsimp only; omega) | (simp <;> omega)) (cell_set_at (by first | (dsimp only; omega) | (simp <;> omega)) x2)), (cell_set_at (by first | (dsimp only; omega) | (simp <;> omega)) (cell_set_at (by first | (dsimp only; omega) | (simp <;> omega)) y0)), (cell_set_at (by first | (dsimp only; omega) | (simp <;> omega)) (cell_set_at (by first | (dsimp only; omega) | (simp <;> omega)) y1)), (cell_set_at (by first | (dsimp only; omega) | (simp <;> omega)) (cell_set_at (by first | (dsimp only; omega) | (simp <;> omega)) y2)), (cell_set_at (by first | (dsimp only; omega) | (simp <;> omega)) (cell_set_at (by first | (dsimp only; omega) | (simp <;> omega)) n0))⟩) ?_; clear hK K
    try simp only [Act.put, List.setIfInBounds_toArray, List.set_cons_zero, List.set_cons_succ]
    clear x0 fx0 x1 fx1 x2 fx2
    clear y0 fy0 y1 fy1 y2 fy2
    clear r0 fr0 r1 fr1 r2 fr2 r3 fr3 r4 fr4
    clear n0 fn0 n1 fn1 n2 fn2 n3 fn3 n4 fn4
    refine plan_world (fun w8 => Blk w8 (w.heap.size) 36 [.bool p, .string (bs a), .int .i64 g] ∧ Blk w8 (w.heap.size + 1) 36 [.bool false, .string (bs []), .int .i64 0] ∧ Blk w8 (w.heap.size + 1 + 1) 99 [.int .i64 0, .bool false, .string (bs []), .bool false, .string (bs [])] ∧ Blk w8 (w4.heap.size) 99 [.int .i64 g, .bool (sgnB X), .string (bs (nt X.natAbs)), .bool false, .string (bs [])] ∧ Below w.heap.size w w8) (by first | exact ⟨((Hx.out.set_other ⟨w4.heap.size, 1, none⟩ (by first | (dsimp only; omega) | (simp <;> omega)) _).set_other ⟨w4.heap.size, 2, none⟩ (by first | (dsimp only; omega) | (simp <;> omega)) _), ((Hy.out.set_other ⟨w4.heap.size, 1, none⟩ (by first | (dsimp only; omega) | (simp <;> omega)) _).set_other ⟨w4.heap.size, 2, none⟩ (by first | (dsimp only; omega) | (simp <;> omega)) _), ((Hr.out.set_other ⟨w4.heap.size, 1, none⟩ (by first | (dsimp only; omega) | (simp <;> omega)) _).set_other ⟨w4.heap.size, 2, none⟩ (by first | (dsimp only; omega) | (simp <;> omega)) _), ((Hn.out.set 1 _).set 2 _), ((Hb.out.setCell (p := ⟨w4.heap.size, 1, none⟩) (by have := Hb.out.size; first | (dsimp only; omega) | (simp <;> omega)) _).setCell (p := ⟨w4.heap.size, 2, none⟩) (by have := Hb.out.size; first | (dsimp only; omega) | (simp <;> omega)) _)⟩ | exact ⟨((Hx.out.set_other ⟨w4.heap.size, 1, none⟩ (by first | (dsimp only; omega) | (simp <;> omega)) _).set_other ⟨w4.heap.size, 2, none⟩ (by first | (dsimp only; omega) | (simp <;> omega)) _), ((Hy.out.set_other ⟨w4.heap.size, 1, none⟩ (by first | (dsimp only; omega) | (simp <;> omega)) _).set_other ⟨w4.heap.size, 2, none⟩ (by first | (dsimp only; omega) | (simp <;> omega)) _), ((Hr.out.set_other ⟨w4.heap.size, 1, none⟩ (by first | (dsimp only; omega) | (simp <;> omega)) _).set_other ⟨w4.heap.size, 2, none⟩ (by first | (dsimp only; omega) | (simp <;> omega)) _), ((Hn.out.set 1 _).set 2 _), Below.drew ((Hb.out.setCell (p := ⟨w4.heap.size, 1, none⟩) (by have := Hb.out.size; first | (dsimp only; omega) | (simp <;> omega)) _).setCell (p := ⟨w4.heap.size, 2, none⟩) (by have := Hb.out.size; first | (dsimp only; omega) | (simp <;> omega)) _)⟩) ?_
    rintro w8 ⟨qx, qy, qr, qn, hbn⟩
    replace Hx := Lib.hid qx; clear qx
    replace Hy := Lib.hid qy; clear qy
    replace Hr := Lib.hid qr; clear qr
    replace Hn := Lib.hid qn; clear qn
    have x0 : w8.cell? ⟨w.heap.size, 0, none⟩ = some (.bool p) := Hx.out.cell 0
    have fx0 : w8.frozen? ⟨w.heap.size, 0, none⟩ = false := Hx.out.free 0
    have x1 : w8.cell? ⟨w.heap.size, 1, none⟩ = some (.string (bs a)) := Hx.out.cell 1
    have fx1 : w8.frozen? ⟨w.heap.size, 1, none⟩ = false := Hx.out.free 1
    have x2 : w8.cell? ⟨w.heap.size, 2, none⟩ = some (.int .i64 g) := Hx.out.cell 2
    have fx2 : w8.frozen? ⟨w.heap.size, 2, none⟩ = false := Hx.out.free 2
    have y0 : w8.cell? ⟨w.heap.size + 1, 0, none⟩ = some (.bool false) := Hy.out.cell 0
    have fy0 : w8.frozen? ⟨w.heap.size + 1, 0, none⟩ = false := Hy.out.free 0
    have y1 : w8.cell? ⟨w.heap.size + 1, 1, none⟩ = some (.string (bs [])) := Hy.out.cell 1
    have fy1 : w8.frozen? ⟨w.heap.size + 1, 1, none⟩ = false := Hy.out.free 1
    have y2 : w8.cell? ⟨w.heap.size + 1, 2, none⟩ = some (.int .i64 0) := Hy.out.cell 2
    have fy2 : w8.frozen? ⟨w.heap.size + 1, 2, none⟩ = false := Hy.out.free 2
    have r0 : w8.cell? ⟨w.heap.size + 1 + 1, 0, none⟩ = some (.int .i64 0) := Hr.out.cell 0
    have fr0 : w8.frozen? ⟨w.heap.size + 1 + 1, 0, none⟩ = false := Hr.out.free 0
    have r1 : w8.cell? ⟨w.heap.size + 1 + 1, 1, none⟩ = some (.bool false) := Hr.out.cell 1
    have fr1 : w8.frozen? ⟨w.heap.size + 1 + 1, 1, none⟩ = false := Hr.out.free 1
    have r2 : w8.cell? ⟨w.heap.size + 1 + 1, 2, none⟩ = some (.string (bs [])) := Hr.out.cell 2
    have fr2 : w8.frozen? ⟨w.heap.size + 1 + 1, 2, none⟩ = false := Hr.out.free 2
    have r3 : w8.cell? ⟨w.heap.size + 1 + 1, 3, none⟩ = some (.bool false) := Hr.out.cell 3
    have fr3 : w8.frozen? ⟨w.heap.size + 1 + 1, 3, none⟩ = false := Hr.out.free 3
    have r4 : w8.cell? ⟨w.heap.size + 1 + 1, 4, none⟩ = some (.string (bs [])) := Hr.out.cell 4
    have fr4 : w8.frozen? ⟨w.heap.size + 1 + 1, 4, none⟩ = false := Hr.out.free 4
    have n0 : w8.cell? ⟨w4.heap.size, 0, none⟩ = some (.int .i64 g) := Hn.out.cell 0
    have fn0 : w8.frozen? ⟨w4.heap.size, 0, none⟩ = false := Hn.out.free 0
    have n1 : w8.cell? ⟨w4.heap.size, 1, none⟩ = some (.bool (sgnB X)) := Hn.out.cell 1
    have fn1 : w8.frozen? ⟨w4.heap.size, 1, none⟩ = false := Hn.out.free 1
    have n2 : w8.cell? ⟨w4.heap.size, 2, none⟩ = some (.string (bs (nt X.natAbs))) := Hn.out.cell 2
    have fn2 : w8.frozen? ⟨w4.heap.size, 2, none⟩ = false := Hn.out.free 2
    have n3 : w8.cell? ⟨w4.heap.size, 3, none⟩ = some (.bool false) := Hn.out.cell 3
    have fn3 : w8.frozen? ⟨w4.heap.size, 3, none⟩ = false := Hn.out.free 3
    have n4 : w8.cell? ⟨w4.heap.size, 4, none⟩ = some (.string (bs [])) := Hn.out.cell 4
    have fn4 : w8.frozen? ⟨w4.heap.size, 4, none⟩ = false := Hn.out.free 4
    replace Hb := Lib.hid hbn; clear hbn
    refine planT rfl rfl (v := ?_) (fun w' hw' => ?_) ?_; rotate_left; focus (go_simp; try with_reducible rfl)
    try simp only [Act.put, List.setIfInBounds_toArray, List.set_cons_zero, List.set_cons_succ]
    refine planF rfl rfl (fun K hK => ?_)
    go_simp
    refine hK _ _ (fun h => absurd h (by decide)) ?_; clear hK K
    try simp only [Act.put, List.setIfInBounds_toArray, List.set_cons_zero, List.set_cons_succ]
    clear x0 fx0 x1 fx1 x2 fx2
    clear y0 fy0 y1 fy1 y2 fy2
    clear r0 fr0 r1 fr1 r2 fr2 r3 fr3 r4 fr4
    clear n0 fn0 n1 fn1 n2 fn2 n3 fn3 n4 fn4
    refine plan_world (fun w9 => Blk w9 (w.heap.size) 36 [.bool p, .string (bs a), .int .i64 g] ∧ Blk w9 (w.heap.size + 1) 36 [.bool false, .string (bs []), .int .i64 0] ∧ Blk w9 (w.heap.size + 1 + 1) 99 [.int .i64 0, .bool false, .string (bs []), .bool false, .string (bs [])] ∧ Blk w9 (w4.heap.size) 99 [.int .i64 g, .bool (sgnB X), .string (bs (nt X.natAbs)), .bool (sgnB Y), .string (bs (nt Y.natAbs))] ∧ Below w.heap.size w w9) (by first | exact ⟨((Hx.out.set_other ⟨w4.heap.size, 3, none⟩ (by first | (dsimp only; omega) | (simp <;> omega)) _).set_other ⟨w4.heap.size, 4, none⟩ (by first | (dsimp only; omega) | (simp <;> omega)) _), ((Hy.out.set_other ⟨w4.heap.size, 3, none⟩ (by first | (dsimp only; omega) | (simp <;> omega)) _).set_other ⟨w4.heap.size, 4, none⟩ (by first | (dsimp only; omega) | (simp <;> omega)) _), ((Hr.out.set_other ⟨w4.heap.size, 3, none⟩ (by first | (dsimp only; omega) | (simp <;> omega)) _).set_other ⟨w4.heap.size, 4, none⟩ (by first | (dsimp only; omega) | (simp <;> omega)) _), ((Hn.out.set 3 _).set 4 _), ((Hb.out.setCell (p := ⟨w4.heap.size, 3, none⟩) (by have := Hb.out.size; first | (dsimp only; omega) | (simp <;> omega)) _).setCell (p := ⟨w4.heap.size, 4, none⟩) (by have := Hb.out.size; first | (dsimp only; omega) | (simp <;> omega)) _)⟩ | exact ⟨((Hx.out.set_other ⟨w4.heap.size, 3, none⟩ (by first | (dsimp only; omega) | (simp <;> omega)) _).set_other ⟨w4.heap.size, 4, none⟩ (by first | (dsimp only; omega) | (simp <;> omega)) _), ((Hy.out.set_other ⟨w4.heap.size, 3, none⟩ (by first | (dsimp only; omega) | (simp <;> omega)) _).set_other ⟨w4.heap.size, 4, none⟩ (by first | (dsimp only; omega) | (simp <;> omega)) _), ((Hr.out.set_other ⟨w4.heap.size, 3, none⟩ (by first | (dsimp only; omega) | (simp <;> omega)) _).set_other ⟨w4.heap.size, 4, none⟩ (by first | (dsimp only; omega) | (simp <;> omega)) _), ((Hn.out.set 3 _).set 4 _), Below.drew ((Hb.out.setCell (p := ⟨w4.heap.size, 3, none⟩) (by have := Hb.out.size; first | (dsimp only; omega) | (simp <;> omega)) _).setCell (p := ⟨w4.heap.size, 4, none⟩) (by have := Hb.out.size; first | (dsimp only; omega) | (simp <;> omega)) _)⟩) ?_
    rintro w9 ⟨qx, qy, qr, qn, hbn⟩
    replace Hx := Lib.hid qx; clear qx
    replace Hy := Lib.hid qy; clear qy
    replace Hr := Lib.hid qr; clear qr
    replace Hn := Lib.hid qn; clear qn
    have x0 : w9.cell? ⟨w.heap.size, 0, none⟩ = some (.bool p) := Hx.out.cell 0
    have fx0 : w9.frozen? ⟨w.heap.size, 0, none⟩ = false := Hx.out.free 0
    have x1 : w9.cell? ⟨w.heap.size, 1, none⟩ = some (.string (bs a)) := Hx.out.cell 1
    have fx1 : w9.frozen? ⟨w.heap.size, 1, none⟩ = false := Hx.out.free 1
    have x2 : w9.cell? ⟨w.heap.size, 2, none⟩ = some (.int .i64 g) := Hx.out.cell 2
    have fx2 : w9.frozen? ⟨w.heap.size, 2, none⟩ = false := Hx.out.free 2
    have y0 : w9.cell? ⟨w.heap.size + 1, 0, none⟩ = some (.bool false) := Hy.out.cell 0
    have fy0 : w9.frozen? ⟨w.heap.size + 1, 0, none⟩ = false := Hy.out.free 0
    have y1 : w9.cell? ⟨w.heap.size + 1, 1, none⟩ = some (.string (bs [])) := Hy.out.cell 1
    have fy1 : w9.frozen? ⟨w.heap.size + 1, 1, none⟩ = false := Hy.out.free 1
    have y2 : w9.cell? ⟨w.heap.size + 1, 2, none⟩ = some (.int .i64 0) := Hy.out.cell 2
    have fy2 : w9.frozen? ⟨w.heap.size + 1, 2, none⟩ = false := Hy.out.free 2
    have r0 : w9.cell? ⟨w.heap.size + 1 + 1, 0, none⟩ = some (.int .i64 0) := Hr.out.cell 0
    have fr0 : w9.frozen? ⟨w.heap.size + 1 + 1, 0, none⟩ = false := Hr.out.free 0
    have r1 : w9.cell? ⟨w.heap.size + 1 + 1, 1, none⟩ = some (.bool false) := Hr.out.cell 1
    have fr1 : w9.frozen? ⟨w.heap.size + 1 + 1, 1, none⟩ = false := Hr.out.free 1
    have r2 : w9.cell? ⟨w.heap.size + 1 + 1, 2, none⟩ = some (.string (bs [])) := Hr.out.cell 2
    have fr2 : w9.frozen? ⟨w.heap.size + 1 + 1, 2, none⟩ = false := Hr.out.free 2
    have r3 : w9.cell? ⟨w.heap.size + 1 + 1, 3, none⟩ = some (.bool false) := Hr.out.cell 3
    have fr3 : w9.frozen? ⟨w.heap.size + 1 + 1, 3, none⟩ = false := Hr.out.free 3
    have r4 : w9.cell? ⟨w.heap.size + 1 + 1, 4, none⟩ = some (.string (bs [])) := Hr.out.cell 4
    have fr4 : w9.frozen? ⟨w.heap.size + 1 + 1, 4, none⟩ = false := Hr.out.free 4
    have n0 : w9.cell? ⟨w4.heap.size, 0, none⟩ = some (.int .i64 g) := Hn.out.cell 0
    have fn0 : w9.frozen? ⟨w4.heap.size, 0, none⟩ = false := Hn.out.free 0
    have n1 : w9.cell? ⟨w4.heap.size, 1, none⟩ = some (.bool (sgnB X)) := Hn.out.cell 1
    have fn1 : w9.frozen? ⟨w4.heap.size, 1, none⟩ = false := Hn.out.free 1
    have n2 : w9.cell? ⟨w4.heap.size, 2, none⟩ = some (.string (bs (nt X.natAbs))) := Hn.out.cell 2
    have fn2 : w9.frozen? ⟨w4.heap.size, 2, none⟩ = false := Hn.out.free 2
    have n3 : w9.cell? ⟨w4.heap.size, 3, none⟩ = some (.bool (sgnB Y)) := Hn.out.cell 3
    have fn3 : w9.frozen? ⟨w4.heap.size, 3, none⟩ = false := Hn.out.free 3
    have n4 : w9.cell? ⟨w4.heap.size, 4, none⟩ = some (.string (bs (nt Y.natAbs))) := Hn.out.cell 4
    have fn4 : w9.frozen? ⟨w4.heap.size, 4, none⟩ = false := Hn.out.free 4
    replace Hb := Lib.hid hbn; clear hbn
    simp only [wpPlan]
    go_wp2
    refine bodyPost_ret (v := .agg #[.int .i64 g, .bool (sgnB X), .string (bs (nt X.natAbs)), .bool (sgnB Y), .string (bs (nt Y.natAbs))]) (by simp [results, Tryz.results49, go_sem, r0, r1, r2, r3, r4]) rfl ⟨rfl, ?_⟩
    (repeat first | exact Hb.out | (refine Below.setCell ?_ (by have := Hb.out.size; first | (dsimp only; omega) | (show _ ≤ _; omega) | (simp <;> omega)) _) | (refine Below.alloc ?_ (by have := Hb.out.size; simp <;> omega) _) | refine Below.drew ?_)
  · have z1 : ¬ (bs b).toList = [] := by rw [bs_toList]; exact nB h3
    have z2 : ¬ (bs a).toList = [] := by rw [bs_toList]; exact nA h1
    have z3 : min i j = g := h2.symm
    clear zA zB nA nB pA pB h2
    have x0 : w4.cell? ⟨w.heap.size, 0, none⟩ = some (.bool p) := Hx.out.cell 0
    have fx0 : w4.frozen? ⟨w.heap.size, 0, none⟩ = false := Hx.out.free 0
    have x1 : w4.cell? ⟨w.heap.size, 1, none⟩ = some (.string (bs a)) := Hx.out.cell 1
    have fx1 : w4.frozen? ⟨w.heap.size, 1, none⟩ = false := Hx.out.free 1
    have x2 : w4.cell? ⟨w.heap.size, 2, none⟩ = some (.int .i64 i) := Hx.out.cell 2
    have fx2 : w4.frozen? ⟨w.heap.size, 2, none⟩ = false := Hx.out.free 2
    have y0 : w4.cell? ⟨w.heap.size + 1, 0, none⟩ = some (.bool q) := Hy.out.cell 0
    have fy0 : w4.frozen? ⟨w.heap.size + 1, 0, none⟩ = false := Hy.out.free 0
    have y1 : w4.cell? ⟨w.heap.size + 1, 1, none⟩ = some (.string (bs b)) := Hy.out.cell 1
    have fy1 : w4.frozen? ⟨w.heap.size + 1, 1, none⟩ = false := Hy.out.free 1
    have y2 : w4.cell? ⟨w.heap.size + 1, 2, none⟩ = some (.int .i64 j) := Hy.out.cell 2
    have fy2 : w4.frozen? ⟨w.heap.size + 1, 2, none⟩ = false := Hy.out.free 2
    have r0 : w4.cell? ⟨w.heap.size + 1 + 1, 0, none⟩ = some (.int .i64 0) := Hr.out.cell 0
    have fr0 : w4.frozen? ⟨w.heap.size + 1 + 1, 0, none⟩ = false := Hr.out.free 0
    have r1 : w4.cell? ⟨w.heap.size + 1 + 1, 1, none⟩ = some (.bool false) := Hr.out.cell 1
    have fr1 : w4.frozen? ⟨w.heap.size + 1 + 1, 1, none⟩ = false := Hr.out.free 1
    have r2 : w4.cell? ⟨w.heap.size + 1 + 1, 2, none⟩ = some (.string (bs [])) := Hr.out.cell 2
    have fr2 : w4.frozen? ⟨w.heap.size + 1 + 1, 2, none⟩ = false := Hr.out.free 2
    have r3 : w4.cell? ⟨w.heap.size + 1 + 1, 3, none⟩ = some (.bool false) := Hr.out.cell 3
    have fr3 : w4.frozen? ⟨w.heap.size + 1 + 1, 3, none⟩ = false := Hr.out.free 3
    have r4 : w4.cell? ⟨w.heap.size + 1 + 1, 4, none⟩ = some (.string (bs [])) := Hr.out.cell 4
    have fr4 : w4.frozen? ⟨w.heap.size + 1 + 1, 4, none⟩ = false := Hr.out.free 4
    have lz_x_W5 : w.heap.size < w4.heap.size := Hx.out.lt
    have lz_y_W5 : w.heap.size + 1 < w4.heap.size := Hy.out.lt
    have lz_r_W5 : w.heap.size + 1 + 1 < w4.heap.size := Hr.out.lt
    go_wp2_with fail
    first | refine wp_world (fun W5 => Blk W5 (w4.heap.size) 99 [.int .i64 g, .bool false, .string (bs []), .bool false, .string (bs [])] ∧ Below w4.heap.size w4 W5) ?hR ?_ | refine calls_world (fun W5 => Blk W5 (w4.heap.size) 99 [.int .i64 g, .bool false, .string (bs []), .bool false, .string (bs [])] ∧ Below w4.heap.size w4 W5) ?hR ?_
    case hR => exact ⟨(Blk.newAt w4 _ _ (b := w4.heap.size) rfl), ((Below.refl _ _).alloc (Nat.le_refl _) _)⟩
    rintro W5 ⟨qn, hbn⟩
    have Hn := Lib.hid qn; clear qn
    clear x0 fx0 x1 fx1 x2 fx2
    replace Hx := Lib.hid (Hx.out.below hbn)
    have x0 : W5.cell? ⟨w.heap.size, 0, none⟩ = some (.bool p) := Hx.out.cell 0
    have fx0 : W5.frozen? ⟨w.heap.size, 0, none⟩ = false := Hx.out.free 0
    have x1 : W5.cell? ⟨w.heap.size, 1, none⟩ = some (.string (bs a)) := Hx.out.cell 1
    have fx1 : W5.frozen? ⟨w.heap.size, 1, none⟩ = false := Hx.out.free 1
    have x2 : W5.cell? ⟨w.heap.size, 2, none⟩ = some (.int .i64 i) := Hx.out.cell 2
    have fx2 : W5.frozen? ⟨w.heap.size, 2, none⟩ = false := Hx.out.free 2
    clear y0 fy0 y1 fy1 y2 fy2
    replace Hy := Lib.hid (Hy.out.below hbn)
    have y0 : W5.cell? ⟨w.heap.size + 1, 0, none⟩ = some (.bool q) := Hy.out.cell 0
    have fy0 : W5.frozen? ⟨w.heap.size + 1, 0, none⟩ = false := Hy.out.free 0
    have y1 : W5.cell? ⟨w.heap.size + 1, 1, none⟩ = some (.string (bs b)) := Hy.out.cell 1
    have fy1 : W5.frozen? ⟨w.heap.size + 1, 1, none⟩ = false := Hy.out.free 1
    have y2 : W5.cell? ⟨w.heap.size + 1, 2, none⟩ = some (.int .i64 j) := Hy.out.cell 2
    have fy2 : W5.frozen? ⟨w.heap.size + 1, 2, none⟩ = false := Hy.out.free 2
    clear r0 fr0 r1 fr1 r2 fr2 r3 fr3 r4 fr4
    replace Hr := Lib.hid (Hr.out.below hbn)
    have r0 : W5.cell? ⟨w.heap.size + 1 + 1, 0, none⟩ = some (.int .i64 0) := Hr.out.cell 0
    have fr0 : W5.frozen? ⟨w.heap.size + 1 + 1, 0, none⟩ = false := Hr.out.free 0
    have r1 : W5.cell? ⟨w.heap.size + 1 + 1, 1, none⟩ = some (.bool false) := Hr.out.cell 1
    have fr1 : W5.frozen? ⟨w.heap.size + 1 + 1, 1, none⟩ = false := Hr.out.free 1
    have r2 : W5.cell? ⟨w.heap.size + 1 + 1, 2, none⟩ = some (.string (bs [])) := Hr.out.cell 2
    have fr2 : W5.frozen? ⟨w.heap.size + 1 + 1, 2, none⟩ = false := Hr.out.free 2
    have r3 : W5.cell? ⟨w.heap.size + 1 + 1, 3, none⟩ = some (.bool false) := Hr.out.cell 3
    have fr3 : W5.frozen? ⟨w.heap.size + 1 + 1, 3, none⟩ = false := Hr.out.free 3
    have r4 : W5.cell? ⟨w.heap.size + 1 + 1, 4, none⟩ = some (.string (bs [])) := Hr.out.cell 4
    have fr4 : W5.frozen? ⟨w.heap.size + 1 + 1, 4, none⟩ = false := Hr.out.free 4
    have n0 : W5.cell? ⟨w4.heap.size, 0, none⟩ = some (.int .i64 g) := Hn.out.cell 0
    have fn0 : W5.frozen? ⟨w4.heap.size, 0, none⟩ = false := Hn.out.free 0
    have n1 : W5.cell? ⟨w4.heap.size, 1, none⟩ = some (.bool false) := Hn.out.cell 1
    have fn1 : W5.frozen? ⟨w4.heap.size, 1, none⟩ = false := Hn.out.free 1
    have n2 : W5.cell? ⟨w4.heap.size, 2, none⟩ = some (.string (bs [])) := Hn.out.cell 2
    have fn2 : W5.frozen? ⟨w4.heap.size, 2, none⟩ = false := Hn.out.free 2
    have n3 : W5.cell? ⟨w4.heap.size, 3, none⟩ = some (.bool false) := Hn.out.cell 3
    have fn3 : W5.frozen? ⟨w4.heap.size, 3, none⟩ = false := Hn.out.free 3
    have n4 : W5.cell? ⟨w4.heap.size, 4, none⟩ = some (.string (bs [])) := Hn.out.cell 4
    have fn4 : W5.frozen? ⟨w4.heap.size, 4, none⟩ = false := Hn.out.free 4
    replace Hb := Lib.hid (bnext Hb.out hbn); clear hbn
    have hns : w.heap.size + 1 + 1 < w4.heap.size := Hr4.out.lt
    refine wp_region_plan (fun w' => w'.cell? ⟨w.heap.size, 0, none⟩ = some (.bool p) ∧ w'.cell? ⟨w.heap.size, 1, none⟩ = some (.string (bs a)) ∧ w'.cell? ⟨w.heap.size, 2, none⟩ = some (.int .i64 i) ∧ w'.cell? ⟨w.heap.size + 1, 0, none⟩ = some (.bool q) ∧ w'.cell? ⟨w.heap.size + 1, 1, none⟩ = some (.string (bs b)) ∧ w'.cell? ⟨w.heap.size + 1, 2, none⟩ = some (.int .i64 j) ∧ w'.cell? ⟨w4.heap.size, 0, none⟩ = some (.int .i64 g)) (fun i => Nat.blt i 11) [(0, true), (1, true), (2, true), (4, true), (5, true), (6, true), (3, false), (8, true), (7, false), (9, false), (10, true), (11, false)] (by kernel_rfl) (by kernel_rfl) rfl (by kernel_rfl) (fun o c a v w => by cases o.dst <;> exact id) ⟨x0, x1, x2, y0, y1, y2, n0⟩ ?_
    refine planT rfl rfl (v := ?_) (fun w' hw' => ?_) ?_; rotate_left; focus (go_simp; try with_reducible rfl)
    try simp only [Act.put, List.setIfInBounds_toArray, List.set_cons_zero, List.set_cons_succ]
    refine planT rfl rfl (v := ?_) (fun w' hw' => ?_) ?_; rotate_left; focus (obtain ⟨q0, q1, q2, q3, q4, q5, q6⟩ := hw'; go_simp; try with_reducible rfl)
    try simp only [Act.put, List.setIfInBounds_toArray, List.set_cons_zero, List.set_cons_succ]
    refine planT rfl rfl (v := ?_) (fun w' hw' => ?_) ?_; rotate_left; focus (obtain ⟨q0, q1, q2, q3, q4, q5, q6⟩ := hw'; go_simp; try with_reducible rfl)
    try simp only [Act.put, List.setIfInBounds_toArray, List.set_cons_zero, List.set_cons_succ]
    refine planT rfl rfl (v := ?_) (fun w' hw' => ?_) ?_; rotate_left; focus (go_simp; try with_reducible rfl)
    try simp only [Act.put, List.setIfInBounds_toArray, List.set_cons_zero, List.set_cons_succ]
    refine planT rfl rfl (v := ?_) (fun w' hw' => ?_) ?_; rotate_left; focus (obtain ⟨q0, q1, q2, q3, q4, q5, q6⟩ := hw'; go_simp; try with_reducible rfl)
    try simp only [Act.put, List.setIfInBounds_toArray, List.set_cons_zero, List.set_cons_succ]
    refine planT rfl rfl (v := ?_) (fun w' hw' => ?_) ?_; rotate_left; focus (obtain ⟨q0, q1, q2, q3, q4, q5, q6⟩ := hw'; go_simp; try with_reducible rfl)
    try simp only [Act.put, List.setIfInBounds_toArray, List.set_cons_zero, List.set_cons_succ]
    refine planF rfl rfl (fun K hK => ?_)
    go_simp
    with_reducible refine (on_any p a i g X HX.out _ La.out Hgi.out (by first | exact (hT.below Hb.out) | exact Tab.drew (hT.below Hb.out) | exact Tab.alloc (hT.below Hb.out) _ | exact Tab.drew (Tab.alloc (hT.below Hb.out) _) | exact Tab.alloc (Tab.drew (hT.below Hb.out)) _)).mono ?_
    rintro e w6 ⟨rfl, hq⟩
    have hbn : Below W5.heap.size W5 w6 := (by first | exact hq | exact bundrew hq); clear hq
    clear x0 fx0 x1 fx1 x2 fx2
    clear y0 fy0 y1 fy1 y2 fy2
    clear r0 fr0 r1 fr1 r2 fr2 r3 fr3 r4 fr4
    clear n0 fn0 n1 fn1 n2 fn2 n3 fn3 n4 fn4
    replace Hx := Lib.hid (Hx.out.below hbn)
    replace Hy := Lib.hid (Hy.out.below hbn)
    replace Hr := Lib.hid (Hr.out.below hbn)
    replace Hn := Lib.hid (Hn.out.below hbn)
    have x0 : w6.cell? ⟨w.heap.size, 0, none⟩ = some (.bool p) := Hx.out.cell 0
    have fx0 : w6.frozen? ⟨w.heap.size, 0, none⟩ = false := Hx.out.free 0
    have x1 : w6.cell? ⟨w.heap.size, 1, none⟩ = some (.string (bs a)) := Hx.out.cell 1
    have fx1 : w6.frozen? ⟨w.heap.size, 1, none⟩ = false := Hx.out.free 1
    have x2 : w6.cell? ⟨w.heap.size, 2, none⟩ = some (.int .i64 i) := Hx.out.cell 2
    have fx2 : w6.frozen? ⟨w.heap.size, 2, none⟩ = false := Hx.out.free 2
    have y0 : w6.cell? ⟨w.heap.size + 1, 0, none⟩ = some (.bool q) := Hy.out.cell 0
    have fy0 : w6.frozen? ⟨w.heap.size + 1, 0, none⟩ = false := Hy.out.free 0
    have y1 : w6.cell? ⟨w.heap.size + 1, 1, none⟩ = some (.string (bs b)) := Hy.out.cell 1
    have fy1 : w6.frozen? ⟨w.heap.size + 1, 1, none⟩ = false := Hy.out.free 1
    have y2 : w6.cell? ⟨w.heap.size + 1, 2, none⟩ = some (.int .i64 j) := Hy.out.cell 2
    have fy2 : w6.frozen? ⟨w.heap.size + 1, 2, none⟩ = false := Hy.out.free 2
    have r0 : w6.cell? ⟨w.heap.size + 1 + 1, 0, none⟩ = some (.int .i64 0) := Hr.out.cell 0
    have fr0 : w6.frozen? ⟨w.heap.size + 1 + 1, 0, none⟩ = false := Hr.out.free 0
    have r1 : w6.cell? ⟨w.heap.size + 1 + 1, 1, none⟩ = some (.bool false) := Hr.out.cell 1
    have fr1 : w6.frozen? ⟨w.heap.size + 1 + 1, 1, none⟩ = false := Hr.out.free 1
    have r2 : w6.cell? ⟨w.heap.size + 1 + 1, 2, none⟩ = some (.string (bs [])) := Hr.out.cell 2
    have fr2 : w6.frozen? ⟨w.heap.size + 1 + 1, 2, none⟩ = false := Hr.out.free 2
    have r3 : w6.cell? ⟨w.heap.size + 1 + 1, 3, none⟩ = some (.bool false) := Hr.out.cell 3
    have fr3 : w6.frozen? ⟨w.heap.size + 1 + 1, 3, none⟩ = false := Hr.out.free 3
    have r4 : w6.cell? ⟨w.heap.size + 1 + 1, 4, none⟩ = some (.string (bs [])) := Hr.out.cell 4
    have fr4 : w6.frozen? ⟨w.heap.size + 1 + 1, 4, none⟩ = false := Hr.out.free 4
    have n0 : w6.cell? ⟨w4.heap.size, 0, none⟩ = some (.int .i64 g) := Hn.out.cell 0
    have fn0 : w6.frozen? ⟨w4.heap.size, 0, none⟩ = false := Hn.out.free 0
    have n1 : w6.cell? ⟨w4.heap.size, 1, none⟩ = some (.bool false) := Hn.out.cell 1
    have fn1 : w6.frozen? ⟨w4.heap.size, 1, none⟩ = false := Hn.out.free 1
    have n2 : w6.cell? ⟨w4.heap.size, 2, none⟩ = some (.string (bs [])) := Hn.out.cell 2
    have fn2 : w6.frozen? ⟨w4.heap.size, 2, none⟩ = false := Hn.out.free 2
    have n3 : w6.cell? ⟨w4.heap.size, 3, none⟩ = some (.bool false) := Hn.out.cell 3
    have fn3 : w6.frozen? ⟨w4.heap.size, 3, none⟩ = false := Hn.out.free 3
    have n4 : w6.cell? ⟨w4.heap.size, 4, none⟩ = some (.string (bs [])) := Hn.out.cell 4
    have fn4 : w6.frozen? ⟨w4.heap.size, 4, none⟩ = false := Hn.out.free 4
    replace Hb := Lib.hid (bnext Hb.out hbn); clear hbn
    refine hK _ _ (fun _ => ⟨x0, x1, x2, y0, y1, y2, n0⟩) ?_; clear hK K
    try simp only [Act.put, List.setIfInBounds_toArray, List.set_cons_zero, List.set_cons_succ]
    refine planT rfl rfl (v := ?_) (fun w' hw' => ?_) ?_; rotate_left; focus (go_simp; try with_reducible rfl)
    try simp only [Act.put, List.setIfInBounds_toArray, List.set_cons_zero, List.set_cons_succ]
    refine planF rfl rfl (fun K hK => ?_)
    go_simp
    with_reducible refine (on_any q b j g Y HY.out _ Lb.out Hgj.out (by first | exact (hT.below Hb.out) | exact Tab.drew (hT.below Hb.out) | exact Tab.alloc (hT.below Hb.out) _ | exact Tab.drew (Tab.alloc (hT.below Hb.out) _) | exact Tab.alloc (Tab.drew (hT.below Hb.out)) _)).mono ?_
    rintro e w7 ⟨rfl, hq⟩
    have hbn : Below w6.heap.size w6 w7 := (by first | exact hq | exact bundrew hq); clear hq
    clear x0 fx0 x1 fx1 x2 fx2
    clear y0 fy0 y1 fy1 y2 fy2
    clear r0 fr0 r1 fr1 r2 fr2 r3 fr3 r4 fr4
    clear n0 fn0 n1 fn1 n2 fn2 n3 fn3 n4 fn4
    replace Hx := Lib.hid (Hx.out.below hbn)
    replace Hy := Lib.hid (Hy.out.below hbn)
    replace Hr := Lib.hid (Hr.out.below hbn)
    replace Hn := Lib.hid (Hn.out.below hbn)
    have x0 : w7.cell? ⟨w.heap.size, 0, none⟩ = some (.bool p) := Hx.out.cell 0
    have fx0 : w7.frozen? ⟨w.heap.size, 0, none⟩ = false := Hx.out.free 0
    have x1 : w7.cell? ⟨w.heap.size, 1, none⟩ = some (.string (bs a)) := Hx.out.cell 1
    have fx1 : w7.frozen? ⟨w.heap.size, 1, none⟩ = false := Hx.out.free 1
    have x2 : w7.cell? ⟨w.heap.size, 2, none⟩ = some (.int .i64 i) := Hx.out.cell 2
    have fx2 : w7.frozen? ⟨w.heap.size, 2, none⟩ = false := Hx.out.free 2
    have y0 : w7.cell? ⟨w.heap.size + 1, 0, none⟩ = some (.bool q) := Hy.out.cell 0
    have fy0 : w7.frozen? ⟨w.heap.size + 1, 0, none⟩ = false := Hy.out.free 0
    have y1 : w7.cell? ⟨w.heap.size + 1, 1, none⟩ = some (.string (bs b)) := Hy.out.cell 1
    have fy1 : w7.frozen? ⟨w.heap.size + 1, 1, none⟩ = false := Hy.out.free 1
    have y2 : w7.cell? ⟨w.heap.size + 1, 2, none⟩ = some (.int .i64 j) := Hy.out.cell 2
    have fy2 : w7.frozen? ⟨w.heap.size + 1, 2, none⟩ = false := Hy.out.free 2
    have r0 : w7.cell? ⟨w.heap.size + 1 + 1, 0, none⟩ = some (.int .i64 0) := Hr.out.cell 0
    have fr0 : w7.frozen? ⟨w.heap.size + 1 + 1, 0, none⟩ = false := Hr.out.free 0
    have r1 : w7.cell? ⟨w.heap.size + 1 + 1, 1, none⟩ = some (.bool false) := Hr.out.cell 1
    have fr1 : w7.frozen? ⟨w.heap.size + 1 + 1, 1, none⟩ = false := Hr.out.free 1
    have r2 : w7.cell? ⟨w.heap.size + 1 + 1, 2, none⟩ = some (.string (bs [])) := Hr.out.cell 2
    have fr2 : w7.frozen? ⟨w.heap.size + 1 + 1, 2, none⟩ = false := Hr.out.free 2
    have r3 : w7.cell? ⟨w.heap.size + 1 + 1, 3, none⟩ = some (.bool false) := Hr.out.cell 3
    have fr3 : w7.frozen? ⟨w.heap.size + 1 + 1, 3, none⟩ = false := Hr.out.free 3
    have r4 : w7.cell? ⟨w.heap.size + 1 + 1, 4, none⟩ = some (.string (bs [])) := Hr.out.cell 4
    have fr4 : w7.frozen? ⟨w.heap.size + 1 + 1, 4, none⟩ = false := Hr.out.free 4
    have n0 : w7.cell? ⟨w4.heap.size, 0, none⟩ = some (.int .i64 g) := Hn.out.cell 0
    have fn0 : w7.frozen? ⟨w4.heap.size, 0, none⟩ = false := Hn.out.free 0
    have n1 : w7.cell? ⟨w4.heap.size, 1, none⟩ = some (.bool false) := Hn.out.cell 1
    have fn1 : w7.frozen? ⟨w4.heap.size, 1, none⟩ = false := Hn.out.free 1
    have n2 : w7.cell? ⟨w4.heap.size, 2, none⟩ = some (.string (bs [])) := Hn.out.cell 2
    have fn2 : w7.frozen? ⟨w4.heap.size, 2, none⟩ = false := Hn.out.free 2
    have n3 : w7.cell? ⟨w4.heap.size, 3, none⟩ = some (.bool false) := Hn.out.cell 3
    have fn3 : w7.frozen? ⟨w4.heap.size, 3, none⟩ = false := Hn.out.free 3
    have n4 : w7.cell? ⟨w4.heap.size, 4, none⟩ = some (.string (bs [])) := Hn.out.cell 4
    have fn4 : w7.frozen? ⟨w4.heap.size, 4, none⟩ = false := Hn.out.free 4
    replace Hb := Lib.hid (bnext Hb.out hbn); clear hbn
    refine hK _ _ (fun _ => ⟨x0, x1, x2, y0, y1, y2, n0⟩) ?_; clear hK K
    try simp only [Act.put, List.setIfInBounds_toArray, List.set_cons_zero, List.set_cons_succ]
    refine planF rfl rfl (fun K hK => ?_)
    go_simp
    refine hK _ _ (fun _ => ⟨(cell_set_at (by first | (dsimp only; omega) | (simp <;> omega)) (cell_set_at (by first | (dsimp only; omega) | (simp <;> omega)) x0)), (cell_set_at (by first | (dsimp only; omega) | (simp <;> omega)) (cell_set_at (by first | (dsimp only; omega) | (simp <;> omega)) x1)), (cell_set_at (by first | (dsimp only; omega) | (simp <;> omega)) (cell_set_at (by first | (dsimp only; omega) | (simp <;> omega)) x2)), (cell_set_at (by first | (dsimp only; omega) | (simp <;> omega)) (cell_set_at (by first | (dsimp only; omega) | (simp <;> omega)) y0)), (cell_set_at (by first | (dsimp only; omega) | (simp <;> omega)) (cell_set_at (by first | (dsimp only; omega) | (simp <;> omega)) y1)), (cell_set_at (by first | (dsimp only; omega) | (simp <;> omega)) (cell_set_at (by first | (dsimp only; omega) | (simp <;> omega)) y2)), (cell_set_at (by first | (dsimp only; omega) | (simp <;> omega)) (cell_set_at (by first | (dsimp only; omega) | (simp <;> omega)) n0))⟩) ?_; clear hK K
    try simp only [Act.put, List.setIfInBounds_toArray, List.set_cons_zero, List.set_cons_succ]
    clear x0 fx0 x1 fx1 x2 fx2
    clear y0 fy0 y1 fy1 y2 fy2
    clear r0 fr0 r1 fr1 r2 fr2 r3 fr3 r4 fr4
    clear n0 fn0 n1 fn1 n2 fn2 n3 fn3 n4 fn4
    refine plan_world (fun w8 => Blk w8 (w.heap.size) 36 [.bool p, .string (bs a), .int .i64 i] ∧ Blk w8 (w.heap.size + 1) 36 [.bool q, .string (bs b), .int .i64 j] ∧ Blk w8 (w.heap.size + 1 + 1) 99 [.int .i64 0, .bool false, .string (bs []), .bool false, .string (bs [])] ∧ Blk w8 (w4.heap.size) 99 [.int .i64 g, .bool (sgnB X), .string (bs (nt X.natAbs)), .bool false, .string (bs [])] ∧ Below w.heap.size w w8) (by first | exact ⟨((Hx.out.set_other ⟨w4.heap.size, 1, none⟩ (by first | (dsimp only; omega) | (simp <;> omega)) _).set_other ⟨w4.heap.size, 2, none⟩ (by first | (dsimp only; omega) | (simp <;> omega)) _), ((Hy.out.set_other ⟨w4.heap.size, 1, none⟩ (by first | (dsimp only; omega) | (simp <;> omega)) _).set_other ⟨w4.heap.size, 2, none⟩ (by first | (dsimp only; omega) | (simp <;> omega)) _), ((Hr.out.set_other ⟨w4.heap.size, 1, none⟩ (by first | (dsimp only; omega) | (simp <;> omega)) _).set_other ⟨w4.heap.size, 2, none⟩ (by first | (dsimp only; omega) | (simp <;> omega)) _), ((Hn.out.set 1 _).set 2 _), ((Hb.out.setCell (p := ⟨w4.heap.size, 1, none⟩) (by have := Hb.out.size; first | (dsimp only; omega) | (simp <;> omega)) _).setCell (p := ⟨w4.heap.size, 2, none⟩) (by have := Hb.out.size; first | (dsimp only; omega) | (simp <;> omega)) _)⟩ | exact ⟨((Hx.out.set_other ⟨w4.heap.size, 1, none⟩ (by first | (dsimp only; omega) | (simp <;> omega)) _).set_other ⟨w4.heap.size, 2, none⟩ (by first | (dsimp only; omega) | (simp <;> omega)) _), ((Hy.out.set_other ⟨w4.heap.size, 1, none⟩ (by first | (dsimp only; omega) | (simp <;> omega)) _).set_other ⟨w4.heap.size, 2, none⟩ (by first | (dsimp only; omega) | (simp <;> omega)) _), ((Hr.out.set_other ⟨w4.heap.size, 1, none⟩ (by first | (dsimp only; omega) | (simp <;> omega)) _).set_other ⟨w4.heap.size, 2, none⟩ (by first | (dsimp only; omega) | (simp <;> omega)) _), ((Hn.out.set 1 _).set 2 _), Below.drew ((Hb.out.setCell (p := ⟨w4.heap.size, 1, none⟩) (by have := Hb.out.size; first | (dsimp only; omega) | (simp <;> omega)) _).setCell (p := ⟨w4.heap.size, 2, none⟩) (by have := Hb.out.size; first | (dsimp only; omega) | (simp <;> omega)) _)⟩) ?_
    rintro w8 ⟨qx, qy, qr, qn, hbn⟩
    replace Hx := Lib.hid qx; clear qx
    replace Hy := Lib.hid qy; clear qy
    replace Hr := Lib.hid qr; clear qr
    replace Hn := Lib.hid qn; clear qn
    have x0 : w8.cell? ⟨w.heap.size, 0, none⟩ = some (.bool p) := Hx.out.cell 0
    have fx0 : w8.frozen? ⟨w.heap.size, 0, none⟩ = false := Hx.out.free 0
    have x1 : w8.cell? ⟨w.heap.size, 1, none⟩ = some (.string (bs a)) := Hx.out.cell 1
    have fx1 : w8.frozen? ⟨w.heap.size, 1, none⟩ = false := Hx.out.free 1
    have x2 : w8.cell? ⟨w.heap.size, 2, none⟩ = some (.int .i64 i) := Hx.out.cell 2
    have fx2 : w8.frozen? ⟨w.heap.size, 2, none⟩ = false := Hx.out.free 2
    have y0 : w8.cell? ⟨w.heap.size + 1, 0, none⟩ = some (.bool q) := Hy.out.cell 0
    have fy0 : w8.frozen? ⟨w.heap.size + 1, 0, none⟩ = false := Hy.out.free 0
    have y1 : w8.cell? ⟨w.heap.size + 1, 1, none⟩ = some (.string (bs b)) := Hy.out.cell 1
    have fy1 : w8.frozen? ⟨w.heap.size + 1, 1, none⟩ = false := Hy.out.free 1
    have y2 : w8.cell? ⟨w.heap.size + 1, 2, none⟩ = some (.int .i64 j) := Hy.out.cell 2
    have fy2 : w8.frozen? ⟨w.heap.size + 1, 2, none⟩ = false := Hy.out.free 2
    have r0 : w8.cell? ⟨w.heap.size + 1 + 1, 0, none⟩ = some (.int .i64 0) := Hr.out.cell 0
    have fr0 : w8.frozen? ⟨w.heap.size + 1 + 1, 0, none⟩ = false := Hr.out.free 0
    have r1 : w8.cell? ⟨w.heap.size + 1 + 1, 1, none⟩ = some (.bool false) := Hr.out.cell 1
    have fr1 : w8.frozen? ⟨w.heap.size + 1 + 1, 1, none⟩ = false := Hr.out.free 1
    have r2 : w8.cell? ⟨w.heap.size + 1 + 1, 2, none⟩ = some (.string (bs [])) := Hr.out.cell 2
    have fr2 : w8.frozen? ⟨w.heap.size + 1 + 1, 2, none⟩ = false := Hr.out.free 2
    have r3 : w8.cell? ⟨w.heap.size + 1 + 1, 3, none⟩ = some (.bool false) := Hr.out.cell 3
    have fr3 : w8.frozen? ⟨w.heap.size + 1 + 1, 3, none⟩ = false := Hr.out.free 3
    have r4 : w8.cell? ⟨w.heap.size + 1 + 1, 4, none⟩ = some (.string (bs [])) := Hr.out.cell 4
    have fr4 : w8.frozen? ⟨w.heap.size + 1 + 1, 4, none⟩ = false := Hr.out.free 4
    have n0 : w8.cell? ⟨w4.heap.size, 0, none⟩ = some (.int .i64 g) := Hn.out.cell 0
    have fn0 : w8.frozen? ⟨w4.heap.size, 0, none⟩ = false := Hn.out.free 0
    have n1 : w8.cell? ⟨w4.heap.size, 1, none⟩ = some (.bool (sgnB X)) := Hn.out.cell 1
    have fn1 : w8.frozen? ⟨w4.heap.size, 1, none⟩ = false := Hn.out.free 1
    have n2 : w8.cell? ⟨w4.heap.size, 2, none⟩ = some (.string (bs (nt X.natAbs))) := Hn.out.cell 2
    have fn2 : w8.frozen? ⟨w4.heap.size, 2, none⟩ = false := Hn.out.free 2
    have n3 : w8.cell? ⟨w4.heap.size, 3, none⟩ = some (.bool false) := Hn.out.cell 3
    have fn3 : w8.frozen? ⟨w4.heap.size, 3, none⟩ = false := Hn.out.free 3
    have n4 : w8.cell? ⟨w4.heap.size, 4, none⟩ = some (.string (bs [])) := Hn.out.cell 4
    have fn4 : w8.frozen? ⟨w4.heap.size, 4, none⟩ = false := Hn.out.free 4
    replace Hb := Lib.hid hbn; clear hbn
    refine planT rfl rfl (v := ?_) (fun w' hw' => ?_) ?_; rotate_left; focus (go_simp; try with_reducible rfl)
    try simp only [Act.put, List.setIfInBounds_toArray, List.set_cons_zero, List.set_cons_succ]
    refine planF rfl rfl (fun K hK => ?_)
    go_simp
    refine hK _ _ (fun h => absurd h (by decide)) ?_; clear hK K
    try simp only [Act.put, List.setIfInBounds_toArray, List.set_cons_zero, List.set_cons_succ]
    clear x0 fx0 x1 fx1 x2 fx2
    clear y0 fy0 y1 fy1 y2 fy2
    clear r0 fr0 r1 fr1 r2 fr2 r3 fr3 r4 fr4
    clear n0 fn0 n1 fn1 n2 fn2 n3 fn3 n4 fn4
    refine plan_world (fun w9 => Blk w9 (w.heap.size) 36 [.bool p, .string (bs a), .int .i64 i] ∧ Blk w9 (w.heap.size + 1) 36 [.bool q, .string (bs b), .int .i64 j] ∧ Blk w9 (w.heap.size + 1 + 1) 99 [.int .i64 0, .bool false, .string (bs []), .bool false, .string (bs [])] ∧ Blk w9 (w4.heap.size) 99 [.int .i64 g, .bool (sgnB X), .string (bs (nt X.natAbs)), .bool (sgnB Y), .string (bs (nt Y.natAbs))] ∧ Below w.heap.size w w9) (by first | exact ⟨((Hx.out.set_other ⟨w4.heap.size, 3, none⟩ (by first | (dsimp only; omega) | (simp <;> omega)) _).set_other ⟨w4.heap.size, 4, none⟩ (by first | (dsimp only; omega) | (simp <;> omega)) _), ((Hy.out.set_other ⟨w4.heap.size, 3, none⟩ (by first | (dsimp only; omega) | (simp <;> omega)) _).set_other ⟨w4.heap.size, 4, none⟩ (by first | (dsimp only; omega) | (simp <;> omega)) _), ((Hr.out.set_other ⟨w4.heap.size, 3, none⟩ (by first | (dsimp only; omega) | (simp <;> omega)) _).set_other ⟨w4.heap.size, 4, none⟩ (by first | (dsimp only; omega) | (simp <;> omega)) _), ((Hn.out.set 3 _).set 4 _), ((Hb.out.setCell (p := ⟨w4.heap.size, 3, none⟩) (by have := Hb.out.size; first | (dsimp only; omega) | (simp <;> omega)) _).setCell (p := ⟨w4.heap.size, 4, none⟩) (by have := Hb.out.size; first | (dsimp only; omega) | (simp <;> omega)) _)⟩ | exact ⟨((Hx.out.set_other ⟨w4.heap.size, 3, none⟩ (by first | (dsimp only; omega) | (simp <;> omega)) _).set_other ⟨w4.heap.size, 4, none⟩ (by first | (dsimp only; omega) | (simp <;> omega)) _), ((Hy.out.set_other ⟨w4.heap.size, 3, none⟩ (by first | (dsimp only; omega) | (simp <;> omega)) _).set_other ⟨w4.heap.size, 4, none⟩ (by first | (dsimp only; omega) | (simp <;> omega)) _), ((Hr.out.set_other ⟨w4.heap.size, 3, none⟩ (by first | (dsimp only; omega) | (simp <;> omega)) _).set_other ⟨w4.heap.size, 4, none⟩ (by first | (dsimp only; omega) | (simp <;> omega)) _), ((Hn.out.set 3 _).set 4 _), Below.drew ((Hb.out.setCell (p := ⟨w4.heap.size, 3, none⟩) (by have := Hb.out.size; first | (dsimp only; omega) | (simp <;> omega)) _).setCell (p := ⟨w4.heap.size, 4, none⟩) (by have := Hb.out.size; first | (dsimp only; omega) | (simp <;> omega)) _)⟩) ?_
    rintro w9 ⟨qx, qy, qr, qn, hbn⟩
    replace Hx := Lib.hid qx; clear qx
    replace Hy := Lib.hid qy; clear qy
    replace Hr := Lib.hid qr; clear qr
    replace Hn := Lib.hid qn; clear qn
    have x0 : w9.cell? ⟨w.heap.size, 0, none⟩ = some (.bool p) := Hx.out.cell 0
    have fx0 : w9.frozen? ⟨w.heap.size, 0, none⟩ = false := Hx.out.free 0
    have x1 : w9.cell? ⟨w.heap.size, 1, none⟩ = some (.string (bs a)) := Hx.out.cell 1
    have fx1 : w9.frozen? ⟨w.heap.size, 1, none⟩ = false := Hx.out.free 1
    have x2 : w9.cell? ⟨w.heap.size, 2, none⟩ = some (.int .i64 i) := Hx.out.cell 2
    have fx2 : w9.frozen? ⟨w.heap.size, 2, none⟩ = false := Hx.out.free 2
    have y0 : w9.cell? ⟨w.heap.size + 1, 0, none⟩ = some (.bool q) := Hy.out.cell 0
    have fy0 : w9.frozen? ⟨w.heap.size + 1, 0, none⟩ = false := Hy.out.free 0
    have y1 : w9.cell? ⟨w.heap.size + 1, 1, none⟩ = some (.string (bs b)) := Hy.out.cell 1
    have fy1 : w9.frozen? ⟨w.heap.size + 1, 1, none⟩ = false := Hy.out.free 1
    have y2 : w9.cell? ⟨w.heap.size + 1, 2, none⟩ = some (.int .i64 j) := Hy.out.cell 2
    have fy2 : w9.frozen? ⟨w.heap.size + 1, 2, none⟩ = false := Hy.out.free 2
    have r0 : w9.cell? ⟨w.heap.size + 1 + 1, 0, none⟩ = some (.int .i64 0) := Hr.out.cell 0
    have fr0 : w9.frozen? ⟨w.heap.size + 1 + 1, 0, none⟩ = false := Hr.out.free 0
    have r1 : w9.cell? ⟨w.heap.size + 1 + 1, 1, none⟩ = some (.bool false) := Hr.out.cell 1
    have fr1 : w9.frozen? ⟨w.heap.size + 1 + 1, 1, none⟩ = false := Hr.out.free 1
    have r2 : w9.cell? ⟨w.heap.size + 1 + 1, 2, none⟩ = some (.string (bs [])) := Hr.out.cell 2
    have fr2 : w9.frozen? ⟨w.heap.size + 1 + 1, 2, none⟩ = false := Hr.out.free 2
    have r3 : w9.cell? ⟨w.heap.size + 1 + 1, 3, none⟩ = some (.bool false) := Hr.out.cell 3
    have fr3 : w9.frozen? ⟨w.heap.size + 1 + 1, 3, none⟩ = false := Hr.out.free 3
    have r4 : w9.cell? ⟨w.heap.size + 1 + 1, 4, none⟩ = some (.string (bs [])) := Hr.out.cell 4
    have fr4 : w9.frozen? ⟨w.heap.size + 1 + 1, 4, none⟩ = false := Hr.out.free 4
    have n0 : w9.cell? ⟨w4.heap.size, 0, none⟩ = some (.int .i64 g) := Hn.out.cell 0
    have fn0 : w9.frozen? ⟨w4.heap.size, 0, none⟩ = false := Hn.out.free 0
    have n1 : w9.cell? ⟨w4.heap.size, 1, none⟩ = some (.bool (sgnB X)) := Hn.out.cell 1
    have fn1 : w9.frozen? ⟨w4.heap.size, 1, none⟩ = false := Hn.out.free 1
    have n2 : w9.cell? ⟨w4.heap.size, 2, none⟩ = some (.string (bs (nt X.natAbs))) := Hn.out.cell 2
    have fn2 : w9.frozen? ⟨w4.heap.size, 2, none⟩ = false := Hn.out.free 2
    have n3 : w9.cell? ⟨w4.heap.size, 3, none⟩ = some (.bool (sgnB Y)) := Hn.out.cell 3
    have fn3 : w9.frozen? ⟨w4.heap.size, 3, none⟩ = false := Hn.out.free 3
    have n4 : w9.cell? ⟨w4.heap.size, 4, none⟩ = some (.string (bs (nt Y.natAbs))) := Hn.out.cell 4
    have fn4 : w9.frozen? ⟨w4.heap.size, 4, none⟩ = false := Hn.out.free 4
    replace Hb := Lib.hid hbn; clear hbn
    simp only [wpPlan]
    go_wp2
    refine bodyPost_ret (v := .agg #[.int .i64 g, .bool (sgnB X), .string (bs (nt X.natAbs)), .bool (sgnB Y), .string (bs (nt Y.natAbs))]) (by simp [results, Tryz.results49, go_sem, r0, r1, r2, r3, r4]) rfl ⟨rfl, ?_⟩
    (repeat first | exact Hb.out | (refine Below.setCell ?_ (by have := Hb.out.size; first | (dsimp only; omega) | (show _ ≤ _; omega) | (simp <;> omega)) _) | (refine Below.alloc ?_ (by have := Hb.out.size; simp <;> omega) _) | refine Below.drew ?_)
end Go.Proofs.YtidjljldhdckiaaGreatDoor
