/- Package dyad: Make, Form, Sign, Shift, Of, Neg, Abs. -/
import Derived.Test.YtidjljldhdckiaaGreatDoorKPlan
import Derived.Test.YtidjljldhdckiaaGreatDoorJWhole4
import Derived.Test.YtidjljldhdckiaaGreatDoorKDyM
namespace Go.Proofs.YtidjljldhdckiaaGreatDoor
open Go.RowKit
attribute [local go_sem ↓] Go.wp_at_zero Go.wp_at_succ

abbrev numV (d : Dyadic) : Value := .agg #[.bool (sgnB (dN d)), .string (bs (nt (dN d).natAbs)), .int .i64 (dE d)]
abbrev rawV (x : Raw) : Value := .agg #[.bool x.1, .string (bs x.2.1), .int .i64 x.2.2]

theorem bs_nil : (⟨#[]⟩ : ByteArray) = bs [] := rfl
theorem shr_as (s : Bool) (l : List UInt8) (n : Nat) (Z : Int) (hZ : iv s l / 2 ^ n = Z) (w : World) (hl : l.length ≤ 34359738368) (hn : n ≤ 549755813888) (hT : Tab w) :
    Calls Tryz.prog 69 #[.agg #[.bool s, .string (bs l)], .int .i64 (-(n : Int))] w fun e w' => e = .returned (intV Z) ∧ Below w.heap.size w w' := by
  rcases Nat.eq_zero_or_pos n with h | h
  · subst h; subst hZ
    have := wShl_any s l 0 w (by omega) (by omega)
    simpa using this
  · subst hZ
    exact wShr_any s l n w hl h (by omega) hT

theorem tz_le (v k : Nat) (h : v < 2 ^ k) : tz v ≤ k := by
  rcases Nat.eq_zero_or_pos v with h0 | h0
  · subst h0; exact Nat.zero_le _
  · obtain ⟨m, hm⟩ := tz_spec v h0
    rcases Nat.lt_or_ge k (tz v) with h1 | h1
    · exfalso
      have h2 := Nat.pow_le_pow_right (show 0 < 2 by decide) (Nat.le_of_lt h1)
      have h3 : 2 ^ tz v ≤ 2 ^ tz v * (2 * m + 1) := Nat.le_mul_of_pos_right _ (by omega)
      omega
    · exact h1

theorem tz_int (n : Int) : tz n.natAbs = n.trailingZeros := by
  unfold tz
  rcases Int.natAbs_eq n with h | h
  · rw [← h]
  · conv => rhs; rw [h]
    rw [Int.trailingZeros_neg]

theorem dval_zero (s : Bool) (l : List UInt8) (e : Int) (h : iv s l = 0) : dval (s, l, e) = 0 := by
  unfold dval; simp only [h]; exact owp_zero _

theorem dval_parts (s : Bool) (l : List UInt8) (e : Int) (h : iv s l ≠ 0) : dN (dval (s, l, e)) = iv s l / 2 ^ tz (nv l) ∧ dE (dval (s, l, e)) = e + (tz (nv l) : Int) := by
  have := dN_owp (k := -e) h
  unfold dval
  rw [show tz (nv l) = (iv s l).trailingZeros by rw [← iv_abs s l]; exact tz_int _]
  exact ⟨this.1, by rw [this.2]; omega⟩

set_option maxHeartbeats 2000000 in
set_option maxRecDepth 100000 in
theorem make_any (s : Bool) (l : List UInt8) (e : Int) (D : Dyadic) (hD : dval (s, l, e) = D) (w : World) (hl : l.length ≤ 34359738368) (he : -1099511627776 ≤ e ∧ e ≤ 1099511627776) (hT : Tab w) :
    Calls Tryz.prog 48 #[.agg #[.bool s, .string (bs l)], .int .i64 e] w fun ex w' => ex = .returned (numV D) ∧ Below w.heap.size w w' := by
  have Hl0 : Hid (l.length ≤ 1099511627776) := by show _ ≤ _; omega
  have Hl1 : Hid (l.length ≤ 68719476736) := by show _ ≤ _; omega
  by_cases h0 : iv s l = 0
  · have h1 := dval_zero s l e h0
    rw [hD] at h1; subst h1; clear hD
    have h2 : sgnI (iv s l) = 0 := by rw [h0]; rfl
    have H2 := Lib.hid h2; clear h2
    have Hv : Hid (numV 0 = .agg #[.bool false, .string (bs []), .int .i64 0]) := rfl
    go_enter Tryz.func48, Tryz.ntmps48
    have Hb : Hid (Below w.heap.size w w) := Below.refl _ _
    go_wp2_with fail
    first | refine wp_world (fun W => Blk W (w.heap.size) 34 [.bool s, .string (bs l)] ∧ Blk W (w.heap.size + 1) 36 [.bool false, .string (bs []), .int .i64 0] ∧ Below w.heap.size w W) ?hR ?_ | refine calls_world (fun W => Blk W (w.heap.size) 34 [.bool s, .string (bs l)] ∧ Blk W (w.heap.size + 1) 36 [.bool false, .string (bs []), .int .i64 0] ∧ Below w.heap.size w W) ?hR ?_
    case hR => exact ⟨((Blk.newAt w _ _ (b := w.heap.size) rfl).alloc _), (Blk.newAt (w.alloc _) _ _ (b := w.heap.size + 1) (by simp)), (((Below.refl _ _).alloc (Nat.le_refl _) _).alloc (by simp <;> omega) _)⟩
    rintro W ⟨qx, qr, hbn⟩
    have Hx := Lib.hid qx; clear qx
    have Hr := Lib.hid qr; clear qr
    have x0 : W.cell? ⟨w.heap.size, 0, none⟩ = some (.bool s) := Hx.out.cell 0
    have x1 : W.cell? ⟨w.heap.size, 1, none⟩ = some (.string (bs l)) := Hx.out.cell 1
    have r0 : W.cell? ⟨w.heap.size + 1, 0, none⟩ = some (.bool false) := Hr.out.cell 0
    have fr0 : W.frozen? ⟨w.heap.size + 1, 0, none⟩ = false := Hr.out.free 0
    have r1 : W.cell? ⟨w.heap.size + 1, 1, none⟩ = some (.string (bs [])) := Hr.out.cell 1
    have fr1 : W.frozen? ⟨w.heap.size + 1, 1, none⟩ = false := Hr.out.free 1
    have r2 : W.cell? ⟨w.heap.size + 1, 2, none⟩ = some (.int .i64 0) := Hr.out.cell 2
    have fr2 : W.frozen? ⟨w.heap.size + 1, 2, none⟩ = false := Hr.out.free 2
    replace Hb := Lib.hid (bnext Hb.out hbn); clear hbn
    go_wp2_with fail
    refine (wSign_any s l _ Hl0.out).mono ?_
    rintro e w1 ⟨rfl, hbn⟩
    clear x0 x1
    clear r0 fr0 r1 fr1 r2 fr2
    replace Hx := Lib.hid (Hx.out.below hbn)
    replace Hr := Lib.hid (Hr.out.below hbn)
    have x0 : w1.cell? ⟨w.heap.size, 0, none⟩ = some (.bool s) := Hx.out.cell 0
    have x1 : w1.cell? ⟨w.heap.size, 1, none⟩ = some (.string (bs l)) := Hx.out.cell 1
    have r0 : w1.cell? ⟨w.heap.size + 1, 0, none⟩ = some (.bool false) := Hr.out.cell 0
    have fr0 : w1.frozen? ⟨w.heap.size + 1, 0, none⟩ = false := Hr.out.free 0
    have r1 : w1.cell? ⟨w.heap.size + 1, 1, none⟩ = some (.string (bs [])) := Hr.out.cell 1
    have fr1 : w1.frozen? ⟨w.heap.size + 1, 1, none⟩ = false := Hr.out.free 1
    have r2 : w1.cell? ⟨w.heap.size + 1, 2, none⟩ = some (.int .i64 0) := Hr.out.cell 2
    have fr2 : w1.frozen? ⟨w.heap.size + 1, 2, none⟩ = false := Hr.out.free 2
    replace Hb := Lib.hid (bnext Hb.out hbn); clear hbn
    rw [H2.out]
    go_wp2
    refine bodyPost_ret (v := .agg #[.bool false, .string (bs []), .int .i64 0]) (by simp [results, Tryz.results48, go_sem, r0, r1, r2, bs_nil]) rfl ⟨by rw [Hv.out], ?_⟩
    (repeat first | exact Hb.out | (refine Below.setCell ?_ (by have := Hb.out.size; first | (dsimp only; omega) | (show _ ≤ _; omega) | (simp <;> omega)) _) | (refine Below.alloc ?_ (by have := Hb.out.size; simp <;> omega) _) | refine Below.drew ?_)
  · obtain ⟨h1, h2⟩ := dval_parts s l e h0
    rw [hD] at h1 h2; clear hD
    have hg0 : sgnI (iv s l) ≠ 0 := by unfold sgnI; split <;> (try split) <;> omega
    have Hg : Hid (∃ g, sgnI (iv s l) = g ∧ g ≠ 0) := ⟨_, rfl, hg0⟩
    obtain ⟨g, hg, hg0⟩ := Hg.out
    have Hg := Lib.hid hg; clear hg
    have hn : tz (nv l) ≤ 549755813888 := Nat.le_trans (tz_le (nv l) (8 * l.length) (by have := nv_lt l; rwa [show (256 : Nat) = 2 ^ 8 by rfl, ← Nat.pow_mul] at this)) (by omega)
    obtain ⟨n, hn0⟩ : ∃ n, tz (nv l) = n := ⟨_, rfl⟩
    rw [hn0] at h1 h2 hn
    have Hn0 := Lib.hid hn0; clear hn0
    obtain ⟨Z, hZ⟩ : ∃ Z, dN D = Z := ⟨_, rfl⟩
    obtain ⟨E, hE⟩ : ∃ E, dE D = E := ⟨_, rfl⟩
    rw [hZ] at h1; rw [hE] at h2
    have HZ := Lib.hid hZ; have HE := Lib.hid hE; clear hZ hE
    have H1 := Lib.hid h1.symm; clear h1
    have hwn : IntKind.i64.wrap (-(n : Int)) = -(n : Int) := by rw [IntKind.wrap_i64]; omega
    have hwe : IntKind.i64.wrap (e + (n : Int)) = E := by rw [IntKind.wrap_i64]; omega
    clear h0 h2
    go_enter Tryz.func48, Tryz.ntmps48
    have Hb : Hid (Below w.heap.size w w) := Below.refl _ _
    go_wp2_with fail
    first | refine wp_world (fun W => Blk W (w.heap.size) 34 [.bool s, .string (bs l)] ∧ Blk W (w.heap.size + 1) 36 [.bool false, .string (bs []), .int .i64 0] ∧ Below w.heap.size w W) ?hR ?_ | refine calls_world (fun W => Blk W (w.heap.size) 34 [.bool s, .string (bs l)] ∧ Blk W (w.heap.size + 1) 36 [.bool false, .string (bs []), .int .i64 0] ∧ Below w.heap.size w W) ?hR ?_
    case hR => exact ⟨((Blk.newAt w _ _ (b := w.heap.size) rfl).alloc _), (Blk.newAt (w.alloc _) _ _ (b := w.heap.size + 1) (by simp)), (((Below.refl _ _).alloc (Nat.le_refl _) _).alloc (by simp <;> omega) _)⟩
    rintro W ⟨qx, qr, hbn⟩
    have Hx := Lib.hid qx; clear qx
    have Hr := Lib.hid qr; clear qr
    have x0 : W.cell? ⟨w.heap.size, 0, none⟩ = some (.bool s) := Hx.out.cell 0
    have x1 : W.cell? ⟨w.heap.size, 1, none⟩ = some (.string (bs l)) := Hx.out.cell 1
    have r0 : W.cell? ⟨w.heap.size + 1, 0, none⟩ = some (.bool false) := Hr.out.cell 0
    have fr0 : W.frozen? ⟨w.heap.size + 1, 0, none⟩ = false := Hr.out.free 0
    have r1 : W.cell? ⟨w.heap.size + 1, 1, none⟩ = some (.string (bs [])) := Hr.out.cell 1
    have fr1 : W.frozen? ⟨w.heap.size + 1, 1, none⟩ = false := Hr.out.free 1
    have r2 : W.cell? ⟨w.heap.size + 1, 2, none⟩ = some (.int .i64 0) := Hr.out.cell 2
    have fr2 : W.frozen? ⟨w.heap.size + 1, 2, none⟩ = false := Hr.out.free 2
    replace Hb := Lib.hid (bnext Hb.out hbn); clear hbn
    go_wp2_with fail
    refine (wSign_any s l _ Hl0.out).mono ?_
    rintro e w1 ⟨rfl, hbn⟩
    clear x0 x1
    clear r0 fr0 r1 fr1 r2 fr2
    replace Hx := Lib.hid (Hx.out.below hbn)
    replace Hr := Lib.hid (Hr.out.below hbn)
    have x0 : w1.cell? ⟨w.heap.size, 0, none⟩ = some (.bool s) := Hx.out.cell 0
    have x1 : w1.cell? ⟨w.heap.size, 1, none⟩ = some (.string (bs l)) := Hx.out.cell 1
    have r0 : w1.cell? ⟨w.heap.size + 1, 0, none⟩ = some (.bool false) := Hr.out.cell 0
    have fr0 : w1.frozen? ⟨w.heap.size + 1, 0, none⟩ = false := Hr.out.free 0
    have r1 : w1.cell? ⟨w.heap.size + 1, 1, none⟩ = some (.string (bs [])) := Hr.out.cell 1
    have fr1 : w1.frozen? ⟨w.heap.size + 1, 1, none⟩ = false := Hr.out.free 1
    have r2 : w1.cell? ⟨w.heap.size + 1, 2, none⟩ = some (.int .i64 0) := Hr.out.cell 2
    have fr2 : w1.frozen? ⟨w.heap.size + 1, 2, none⟩ = false := Hr.out.free 2
    replace Hb := Lib.hid (bnext Hb.out hbn); clear hbn
    rw [Hg.out]
    have HT := Lib.hid (hT.below Hb.out)
    go_wp2_with fail
    refine (natZeros_any l _ Hl1.out HT.out).mono ?_
    rintro e w2 ⟨rfl, hbn⟩
    clear x0 x1
    clear r0 fr0 r1 fr1 r2 fr2
    replace Hx := Lib.hid (Hx.out.below hbn)
    replace Hr := Lib.hid (Hr.out.below hbn)
    have x0 : w2.cell? ⟨w.heap.size, 0, none⟩ = some (.bool s) := Hx.out.cell 0
    have x1 : w2.cell? ⟨w.heap.size, 1, none⟩ = some (.string (bs l)) := Hx.out.cell 1
    have r0 : w2.cell? ⟨w.heap.size + 1, 0, none⟩ = some (.bool false) := Hr.out.cell 0
    have fr0 : w2.frozen? ⟨w.heap.size + 1, 0, none⟩ = false := Hr.out.free 0
    have r1 : w2.cell? ⟨w.heap.size + 1, 1, none⟩ = some (.string (bs [])) := Hr.out.cell 1
    have fr1 : w2.frozen? ⟨w.heap.size + 1, 1, none⟩ = false := Hr.out.free 1
    have r2 : w2.cell? ⟨w.heap.size + 1, 2, none⟩ = some (.int .i64 0) := Hr.out.cell 2
    have fr2 : w2.frozen? ⟨w.heap.size + 1, 2, none⟩ = false := Hr.out.free 2
    replace Hb := Lib.hid (bnext Hb.out hbn); clear hbn
    rw [Hn0.out]
    replace HT := Lib.hid (hT.below Hb.out)
    go_wp2_with fail
    refine (shr_as s l n Z H1.out _ hl hn HT.out).mono ?_
    rintro e w3 ⟨rfl, hbn⟩
    clear x0 x1
    clear r0 fr0 r1 fr1 r2 fr2
    replace Hx := Lib.hid (Hx.out.below hbn)
    replace Hr := Lib.hid (Hr.out.below hbn)
    have x0 : w3.cell? ⟨w.heap.size, 0, none⟩ = some (.bool s) := Hx.out.cell 0
    have x1 : w3.cell? ⟨w.heap.size, 1, none⟩ = some (.string (bs l)) := Hx.out.cell 1
    have r0 : w3.cell? ⟨w.heap.size + 1, 0, none⟩ = some (.bool false) := Hr.out.cell 0
    have fr0 : w3.frozen? ⟨w.heap.size + 1, 0, none⟩ = false := Hr.out.free 0
    have r1 : w3.cell? ⟨w.heap.size + 1, 1, none⟩ = some (.string (bs [])) := Hr.out.cell 1
    have fr1 : w3.frozen? ⟨w.heap.size + 1, 1, none⟩ = false := Hr.out.free 1
    have r2 : w3.cell? ⟨w.heap.size + 1, 2, none⟩ = some (.int .i64 0) := Hr.out.cell 2
    have fr2 : w3.frozen? ⟨w.heap.size + 1, 2, none⟩ = false := Hr.out.free 2
    replace Hb := Lib.hid (bnext Hb.out hbn); clear hbn
    go_wp2
    refine bodyPost_ret (v := .agg #[.bool (sgnB Z), .string (bs (nt Z.natAbs)), .int .i64 E]) (by simp [results, Tryz.results48, go_sem, r0, r1, r2]) rfl ⟨by rw [← HZ.out, ← HE.out], ?_⟩
    (repeat first | exact Hb.out | (refine Below.setCell ?_ (by have := Hb.out.size; first | (dsimp only; omega) | (show _ ≤ _; omega) | (simp <;> omega)) _) | (refine Below.alloc ?_ (by have := Hb.out.size; simp <;> omega) _) | refine Below.drew ?_)

theorem Ok.len {s : Bool} {l : List UInt8} {e : Int} (h : Ok (s, l, e)) : l.length ≤ 268435456 := h.1
theorem Ok.exp {s : Bool} {l : List UInt8} {e : Int} (h : Ok (s, l, e)) : -268435456 ≤ e ∧ e ≤ 268435456 := h.2

set_option maxHeartbeats 1000000 in
theorem form_any (s : Bool) (l : List UInt8) (e : Int) (D : Dyadic) (hD : dval (s, l, e) = D) (w : World) (hx : Ok (s, l, e)) (hT : Tab w) :
    Calls Tryz.prog 27 #[.agg #[.bool s, .string (bs l), .int .i64 e]] w fun ex w' => ex = .returned (numV D) ∧ Below w.heap.size w w' := by
  have HD := Lib.hid hD; clear hD
  have h1 := hx.len; have h2 := hx.exp; clear hx
  have Hl : Hid (l.length ≤ 34359738368) := by show _ ≤ _; omega
  have He : Hid (-1099511627776 ≤ e ∧ e ≤ 1099511627776) := by show _ ∧ _; omega
  go_enter Tryz.func27, Tryz.ntmps27
  have Hb : Hid (Below w.heap.size w w) := Below.refl _ _
  go_wp2_with fail
  first | refine wp_world (fun W => Blk W (w.heap.size) 36 [.bool s, .string (bs l), .int .i64 e] ∧ Blk W (w.heap.size + 1) 36 [.bool false, .string (bs []), .int .i64 0] ∧ Below w.heap.size w W) ?hR ?_ | refine calls_world (fun W => Blk W (w.heap.size) 36 [.bool s, .string (bs l), .int .i64 e] ∧ Blk W (w.heap.size + 1) 36 [.bool false, .string (bs []), .int .i64 0] ∧ Below w.heap.size w W) ?hR ?_
  case hR => exact ⟨((Blk.newAt w _ _ (b := w.heap.size) rfl).alloc _), (Blk.newAt (w.alloc _) _ _ (b := w.heap.size + 1) (by simp)), (((Below.refl _ _).alloc (Nat.le_refl _) _).alloc (by simp <;> omega) _)⟩
  rintro W ⟨qx, qr, hbn⟩
  have Hx := Lib.hid qx; clear qx
  have Hr := Lib.hid qr; clear qr
  have x0 : W.cell? ⟨w.heap.size, 0, none⟩ = some (.bool s) := Hx.out.cell 0
  have x1 : W.cell? ⟨w.heap.size, 1, none⟩ = some (.string (bs l)) := Hx.out.cell 1
  have x2 : W.cell? ⟨w.heap.size, 2, none⟩ = some (.int .i64 e) := Hx.out.cell 2
  have r0 : W.cell? ⟨w.heap.size + 1, 0, none⟩ = some (.bool false) := Hr.out.cell 0
  have fr0 : W.frozen? ⟨w.heap.size + 1, 0, none⟩ = false := Hr.out.free 0
  have r1 : W.cell? ⟨w.heap.size + 1, 1, none⟩ = some (.string (bs [])) := Hr.out.cell 1
  have fr1 : W.frozen? ⟨w.heap.size + 1, 1, none⟩ = false := Hr.out.free 1
  have r2 : W.cell? ⟨w.heap.size + 1, 2, none⟩ = some (.int .i64 0) := Hr.out.cell 2
  have fr2 : W.frozen? ⟨w.heap.size + 1, 2, none⟩ = false := Hr.out.free 2
  replace Hb := Lib.hid (bnext Hb.out hbn); clear hbn
  have HT := Lib.hid (hT.below Hb.out)
  go_wp2_with fail
  refine (make_any s l e D HD.out _ Hl.out He.out HT.out).mono ?_
  rintro e w1 ⟨rfl, hbn⟩
  clear x0 x1 x2
  clear r0 fr0 r1 fr1 r2 fr2
  replace Hx := Lib.hid (Hx.out.below hbn)
  replace Hr := Lib.hid (Hr.out.below hbn)
  have x0 : w1.cell? ⟨w.heap.size, 0, none⟩ = some (.bool s) := Hx.out.cell 0
  have x1 : w1.cell? ⟨w.heap.size, 1, none⟩ = some (.string (bs l)) := Hx.out.cell 1
  have x2 : w1.cell? ⟨w.heap.size, 2, none⟩ = some (.int .i64 e) := Hx.out.cell 2
  have r0 : w1.cell? ⟨w.heap.size + 1, 0, none⟩ = some (.bool false) := Hr.out.cell 0
  have fr0 : w1.frozen? ⟨w.heap.size + 1, 0, none⟩ = false := Hr.out.free 0
  have r1 : w1.cell? ⟨w.heap.size + 1, 1, none⟩ = some (.string (bs [])) := Hr.out.cell 1
  have fr1 : w1.frozen? ⟨w.heap.size + 1, 1, none⟩ = false := Hr.out.free 1
  have r2 : w1.cell? ⟨w.heap.size + 1, 2, none⟩ = some (.int .i64 0) := Hr.out.cell 2
  have fr2 : w1.frozen? ⟨w.heap.size + 1, 2, none⟩ = false := Hr.out.free 2
  replace Hb := Lib.hid (bnext Hb.out hbn); clear hbn
  go_wp2
  refine bodyPost_ret (v := numV D) (by simp [results, Tryz.results27, go_sem, r0, r1, r2]) rfl ⟨rfl, ?_⟩
  (repeat first | exact Hb.out | (refine Below.setCell ?_ (by have := Hb.out.size; first | (dsimp only; omega) | (show _ ≤ _; omega) | (simp <;> omega)) _) | (refine Below.alloc ?_ (by have := Hb.out.size; simp <;> omega) _) | refine Below.drew ?_)

set_option maxHeartbeats 1000000 in
theorem shift_any (s : Bool) (l : List UInt8) (e n : Int) (D : Dyadic) (hD : dval (s, l, e + n) = D) (w : World) (hx : Ok (s, l, e)) (hn : -268435456 ≤ n ∧ n ≤ 268435456) (hT : Tab w) :
    Calls Tryz.prog 37 #[.agg #[.bool s, .string (bs l), .int .i64 e], .int .i64 n] w fun ex w' => ex = .returned (numV D) ∧ Below w.heap.size w w' := by
  have h1 := hx.len; have h2 := hx.exp; clear hx
  obtain ⟨z, hz⟩ : ∃ z, e + n = z := ⟨_, rfl⟩
  have hwe : IntKind.i64.wrap (e + n) = z := by rw [IntKind.wrap_i64]; omega
  rw [hz] at hD
  have HD := Lib.hid hD; clear hD
  have Hl : Hid (l.length ≤ 34359738368) := by show _ ≤ _; omega
  have He : Hid (-1099511627776 ≤ z ∧ z ≤ 1099511627776) := by show _ ∧ _; omega
  clear hz
  go_enter Tryz.func37, Tryz.ntmps37
  have Hb : Hid (Below w.heap.size w w) := Below.refl _ _
  go_wp2_with fail
  first | refine wp_world (fun W => Blk W (w.heap.size) 36 [.bool s, .string (bs l), .int .i64 e] ∧ Blk W (w.heap.size + 1) 36 [.bool false, .string (bs []), .int .i64 0] ∧ Below w.heap.size w W) ?hR ?_ | refine calls_world (fun W => Blk W (w.heap.size) 36 [.bool s, .string (bs l), .int .i64 e] ∧ Blk W (w.heap.size + 1) 36 [.bool false, .string (bs []), .int .i64 0] ∧ Below w.heap.size w W) ?hR ?_
  case hR => exact ⟨((Blk.newAt w _ _ (b := w.heap.size) rfl).alloc _), (Blk.newAt (w.alloc _) _ _ (b := w.heap.size + 1) (by simp)), (((Below.refl _ _).alloc (Nat.le_refl _) _).alloc (by simp <;> omega) _)⟩
  rintro W ⟨qx, qr, hbn⟩
  have Hx := Lib.hid qx; clear qx
  have Hr := Lib.hid qr; clear qr
  have x0 : W.cell? ⟨w.heap.size, 0, none⟩ = some (.bool s) := Hx.out.cell 0
  have x1 : W.cell? ⟨w.heap.size, 1, none⟩ = some (.string (bs l)) := Hx.out.cell 1
  have x2 : W.cell? ⟨w.heap.size, 2, none⟩ = some (.int .i64 e) := Hx.out.cell 2
  have r0 : W.cell? ⟨w.heap.size + 1, 0, none⟩ = some (.bool false) := Hr.out.cell 0
  have fr0 : W.frozen? ⟨w.heap.size + 1, 0, none⟩ = false := Hr.out.free 0
  have r1 : W.cell? ⟨w.heap.size + 1, 1, none⟩ = some (.string (bs [])) := Hr.out.cell 1
  have fr1 : W.frozen? ⟨w.heap.size + 1, 1, none⟩ = false := Hr.out.free 1
  have r2 : W.cell? ⟨w.heap.size + 1, 2, none⟩ = some (.int .i64 0) := Hr.out.cell 2
  have fr2 : W.frozen? ⟨w.heap.size + 1, 2, none⟩ = false := Hr.out.free 2
  replace Hb := Lib.hid (bnext Hb.out hbn); clear hbn
  have HT := Lib.hid (hT.below Hb.out)
  go_wp2_with fail
  refine (make_any s l z D HD.out _ Hl.out He.out HT.out).mono ?_
  rintro e w1 ⟨rfl, hbn⟩
  clear x0 x1 x2
  clear r0 fr0 r1 fr1 r2 fr2
  replace Hx := Lib.hid (Hx.out.below hbn)
  replace Hr := Lib.hid (Hr.out.below hbn)
  have x0 : w1.cell? ⟨w.heap.size, 0, none⟩ = some (.bool s) := Hx.out.cell 0
  have x1 : w1.cell? ⟨w.heap.size, 1, none⟩ = some (.string (bs l)) := Hx.out.cell 1
  have x2 : w1.cell? ⟨w.heap.size, 2, none⟩ = some (.int .i64 e) := Hx.out.cell 2
  have r0 : w1.cell? ⟨w.heap.size + 1, 0, none⟩ = some (.bool false) := Hr.out.cell 0
  have fr0 : w1.frozen? ⟨w.heap.size + 1, 0, none⟩ = false := Hr.out.free 0
  have r1 : w1.cell? ⟨w.heap.size + 1, 1, none⟩ = some (.string (bs [])) := Hr.out.cell 1
  have fr1 : w1.frozen? ⟨w.heap.size + 1, 1, none⟩ = false := Hr.out.free 1
  have r2 : w1.cell? ⟨w.heap.size + 1, 2, none⟩ = some (.int .i64 0) := Hr.out.cell 2
  have fr2 : w1.frozen? ⟨w.heap.size + 1, 2, none⟩ = false := Hr.out.free 2
  replace Hb := Lib.hid (bnext Hb.out hbn); clear hbn
  go_wp2
  refine bodyPost_ret (v := numV D) (by simp [results, Tryz.results37, go_sem, r0, r1, r2]) rfl ⟨rfl, ?_⟩
  (repeat first | exact Hb.out | (refine Below.setCell ?_ (by have := Hb.out.size; first | (dsimp only; omega) | (show _ ≤ _; omega) | (simp <;> omega)) _) | (refine Below.alloc ?_ (by have := Hb.out.size; simp <;> omega) _) | refine Below.drew ?_)

theorem sgnI_dN (s : Bool) (l : List UInt8) (e : Int) : sgnI (iv s l) = sgnI (dN (dval (s, l, e))) := by
  by_cases h0 : iv s l = 0
  · rw [dval_zero s l e h0, h0, dN_zero]
  · rw [(dval_parts s l e h0).1]
    obtain ⟨q, hq⟩ : (2 : Int) ^ tz (nv l) ∣ iv s l := by
      rw [show tz (nv l) = (iv s l).trailingZeros by rw [← iv_abs s l]; exact tz_int _]
      exact Int.two_pow_trailingZeros_dvd h0
    have hp : (0 : Int) < 2 ^ tz (nv l) := by
      have : ((2 ^ tz (nv l) : Nat) : Int) > 0 := by have := Nat.pow_pos (n := tz (nv l)) (show 0 < 2 by decide); omega
      simpa [Int.natCast_pow] using this
    generalize (2 : Int) ^ tz (nv l) = p at *
    rw [hq, Int.mul_ediv_cancel_left _ (by omega)]
    unfold sgnI
    rcases Int.lt_trichotomy q 0 with h | h | h
    · have := Int.mul_neg_of_pos_of_neg hp h; simp only [h, this, if_true]
    · subst h; simp
    · have := Int.mul_pos hp h
      rw [if_neg (by omega), if_neg (by omega), if_neg (by omega), if_neg (by omega)]
/-- A number's sign. -/
abbrev dsg (d : Dyadic) : Int := sgnI (dN d)

set_option maxHeartbeats 1000000 in
theorem dsign_any (s : Bool) (l : List UInt8) (e : Int) (g : Int) (hg : dsg (dval (s, l, e)) = g) (w : World) (hx : Ok (s, l, e)) :
    Calls Tryz.prog 52 #[.agg #[.bool s, .string (bs l), .int .i64 e]] w fun ex w' => ex = .returned (.int .i64 g) ∧ Below w.heap.size w w' := by
  have h1 := hx.len; clear hx
  have Hg : Hid (sgnI (iv s l) = g) := by show _ = _; rw [← hg]; exact sgnI_dN s l e
  have Hl : Hid (l.length ≤ 1099511627776) := by show _ ≤ _; omega
  clear hg
  go_enter Tryz.func52, Tryz.ntmps52
  have Hb : Hid (Below w.heap.size w w) := Below.refl _ _
  go_wp2_with fail
  first | refine wp_world (fun W => Blk W (w.heap.size) 36 [.bool s, .string (bs l), .int .i64 e] ∧ Below w.heap.size w W) ?hR ?_ | refine calls_world (fun W => Blk W (w.heap.size) 36 [.bool s, .string (bs l), .int .i64 e] ∧ Below w.heap.size w W) ?hR ?_
  case hR => exact ⟨(Blk.newAt w _ _ (b := w.heap.size) rfl), ((Below.refl _ _).alloc (Nat.le_refl _) _)⟩
  rintro W ⟨qx, hbn⟩
  have Hx := Lib.hid qx; clear qx
  have x0 : W.cell? ⟨w.heap.size, 0, none⟩ = some (.bool s) := Hx.out.cell 0
  have x1 : W.cell? ⟨w.heap.size, 1, none⟩ = some (.string (bs l)) := Hx.out.cell 1
  have x2 : W.cell? ⟨w.heap.size, 2, none⟩ = some (.int .i64 e) := Hx.out.cell 2
  replace Hb := Lib.hid (bnext Hb.out hbn); clear hbn
  go_wp2_with fail
  refine (wSign_any s l _ Hl.out).mono ?_
  rintro e w1 ⟨rfl, hbn⟩
  clear x0 x1 x2
  replace Hx := Lib.hid (Hx.out.below hbn)
  have x0 : w1.cell? ⟨w.heap.size, 0, none⟩ = some (.bool s) := Hx.out.cell 0
  have x1 : w1.cell? ⟨w.heap.size, 1, none⟩ = some (.string (bs l)) := Hx.out.cell 1
  have x2 : w1.cell? ⟨w.heap.size, 2, none⟩ = some (.int .i64 e) := Hx.out.cell 2
  replace Hb := Lib.hid (bnext Hb.out hbn); clear hbn
  rw [Hg.out]
  go_wp2
  go_ret
  exact ⟨rfl, Hb.out⟩

theorem dval_int (n e : Int) : dval (sgnB n, nt n.natAbs, e) = Dyadic.ofIntWithPrec n (-e) := by
  unfold dval; simp only [iv_int]

set_option maxHeartbeats 1000000 in
theorem dOf_any (n : Int) (D : Dyadic) (hD : Dyadic.ofIntWithPrec n 0 = D) (w : World) (hn : -9223372036854775808 ≤ n ∧ n ≤ 9223372036854775807) (hT : Tab w) :
    Calls Tryz.prog 46 #[.int .i64 n] w fun ex w' => ex = .returned (numV D) ∧ Below w.heap.size w w' := by
  obtain ⟨N, hN⟩ : ∃ N, n = N := ⟨_, rfl⟩
  have HD : Hid (dval (sgnB N, nt N.natAbs, 0) = D) := by show _ = _; rw [dval_int, ← hN]; exact hD
  have Hl : Hid ((nt N.natAbs).length ≤ 34359738368) := by
    show _ ≤ _
    exact Nat.le_trans (nt_length_le (k := 8) (by omega)) (by decide)
  have HN := Lib.hid hN; clear hN hD
  go_enter Tryz.func46, Tryz.ntmps46
  have Hb : Hid (Below w.heap.size w w) := Below.refl _ _
  go_wp2_with fail
  first | refine wp_world (fun W => Blk W (w.heap.size) 36 [.bool false, .string (bs []), .int .i64 0] ∧ Below w.heap.size w W) ?hR ?_ | refine calls_world (fun W => Blk W (w.heap.size) 36 [.bool false, .string (bs []), .int .i64 0] ∧ Below w.heap.size w W) ?hR ?_
  case hR => exact ⟨(Blk.newAt w _ _ (b := w.heap.size) rfl), ((Below.refl _ _).alloc (Nat.le_refl _) _)⟩
  rintro W ⟨qr, hbn⟩
  have Hr := Lib.hid qr; clear qr
  have r0 : W.cell? ⟨w.heap.size, 0, none⟩ = some (.bool false) := Hr.out.cell 0
  have fr0 : W.frozen? ⟨w.heap.size, 0, none⟩ = false := Hr.out.free 0
  have r1 : W.cell? ⟨w.heap.size, 1, none⟩ = some (.string (bs [])) := Hr.out.cell 1
  have fr1 : W.frozen? ⟨w.heap.size, 1, none⟩ = false := Hr.out.free 1
  have r2 : W.cell? ⟨w.heap.size, 2, none⟩ = some (.int .i64 0) := Hr.out.cell 2
  have fr2 : W.frozen? ⟨w.heap.size, 2, none⟩ = false := Hr.out.free 2
  replace Hb := Lib.hid (bnext Hb.out hbn); clear hbn
  go_wp2_with fail
  refine (wOf_as n N HN.out _ hn.1 hn.2).mono ?_
  rintro e w1 ⟨rfl, hbn⟩
  clear r0 fr0 r1 fr1 r2 fr2
  replace Hr := Lib.hid (Hr.out.below hbn)
  have r0 : w1.cell? ⟨w.heap.size, 0, none⟩ = some (.bool false) := Hr.out.cell 0
  have fr0 : w1.frozen? ⟨w.heap.size, 0, none⟩ = false := Hr.out.free 0
  have r1 : w1.cell? ⟨w.heap.size, 1, none⟩ = some (.string (bs [])) := Hr.out.cell 1
  have fr1 : w1.frozen? ⟨w.heap.size, 1, none⟩ = false := Hr.out.free 1
  have r2 : w1.cell? ⟨w.heap.size, 2, none⟩ = some (.int .i64 0) := Hr.out.cell 2
  have fr2 : w1.frozen? ⟨w.heap.size, 2, none⟩ = false := Hr.out.free 2
  replace Hb := Lib.hid (bnext Hb.out hbn); clear hbn
  have HT := Lib.hid (hT.below Hb.out)
  go_wp2_with fail
  refine (make_any (sgnB N) (nt N.natAbs) 0 D HD.out _ Hl.out (by omega) HT.out).mono ?_
  rintro e w2 ⟨rfl, hbn⟩
  clear r0 fr0 r1 fr1 r2 fr2
  replace Hr := Lib.hid (Hr.out.below hbn)
  have r0 : w2.cell? ⟨w.heap.size, 0, none⟩ = some (.bool false) := Hr.out.cell 0
  have fr0 : w2.frozen? ⟨w.heap.size, 0, none⟩ = false := Hr.out.free 0
  have r1 : w2.cell? ⟨w.heap.size, 1, none⟩ = some (.string (bs [])) := Hr.out.cell 1
  have fr1 : w2.frozen? ⟨w.heap.size, 1, none⟩ = false := Hr.out.free 1
  have r2 : w2.cell? ⟨w.heap.size, 2, none⟩ = some (.int .i64 0) := Hr.out.cell 2
  have fr2 : w2.frozen? ⟨w.heap.size, 2, none⟩ = false := Hr.out.free 2
  replace Hb := Lib.hid (bnext Hb.out hbn); clear hbn
  go_wp2
  refine bodyPost_ret (v := numV D) (by simp [results, Tryz.results46, go_sem, r0, r1, r2]) rfl ⟨rfl, ?_⟩
  (repeat first | exact Hb.out | (refine Below.setCell ?_ (by have := Hb.out.size; first | (dsimp only; omega) | (show _ ≤ _; omega) | (simp <;> omega)) _) | (refine Below.alloc ?_ (by have := Hb.out.size; simp <;> omega) _) | refine Below.drew ?_)

set_option maxHeartbeats 1000000 in
theorem dNeg_any (s : Bool) (l : List UInt8) (e : Int) (D : Dyadic) (hD : -dval (s, l, e) = D) (w : World) (hx : Ok (s, l, e)) (hT : Tab w) :
    Calls Tryz.prog 102 #[.agg #[.bool s, .string (bs l), .int .i64 e]] w fun ex w' => ex = .returned (numV D) ∧ Below w.heap.size w w' := by
  have h1 := hx.len; have h2 := hx.exp; clear hx
  obtain ⟨N, hN⟩ : ∃ N, -(iv s l) = N := ⟨_, rfl⟩
  have HD : Hid (dval (sgnB N, nt N.natAbs, e) = D) := by
    show _ = _
    rw [dval_int, ← hN, ← hD]; unfold dval; rw [owp_neg]
  have Hl : Hid ((nt N.natAbs).length ≤ 34359738368) := by
    show _ ≤ _; rw [← hN]; exact neg_len s l _ (by omega)
  have Hl0 : Hid (l.length ≤ 1099511627776) := by show _ ≤ _; omega
  have He : Hid (-1099511627776 ≤ e ∧ e ≤ 1099511627776) := by show _ ∧ _; omega
  have HN := Lib.hid hN; clear hN hD
  go_enter Tryz.func102, Tryz.ntmps102
  have Hb : Hid (Below w.heap.size w w) := Below.refl _ _
  go_wp2_with fail
  first | refine wp_world (fun W => Blk W (w.heap.size) 36 [.bool s, .string (bs l), .int .i64 e] ∧ Blk W (w.heap.size + 1) 36 [.bool false, .string (bs []), .int .i64 0] ∧ Below w.heap.size w W) ?hR ?_ | refine calls_world (fun W => Blk W (w.heap.size) 36 [.bool s, .string (bs l), .int .i64 e] ∧ Blk W (w.heap.size + 1) 36 [.bool false, .string (bs []), .int .i64 0] ∧ Below w.heap.size w W) ?hR ?_
  case hR => exact ⟨((Blk.newAt w _ _ (b := w.heap.size) rfl).alloc _), (Blk.newAt (w.alloc _) _ _ (b := w.heap.size + 1) (by simp)), (((Below.refl _ _).alloc (Nat.le_refl _) _).alloc (by simp <;> omega) _)⟩
  rintro W ⟨qx, qr, hbn⟩
  have Hx := Lib.hid qx; clear qx
  have Hr := Lib.hid qr; clear qr
  have x0 : W.cell? ⟨w.heap.size, 0, none⟩ = some (.bool s) := Hx.out.cell 0
  have x1 : W.cell? ⟨w.heap.size, 1, none⟩ = some (.string (bs l)) := Hx.out.cell 1
  have x2 : W.cell? ⟨w.heap.size, 2, none⟩ = some (.int .i64 e) := Hx.out.cell 2
  have r0 : W.cell? ⟨w.heap.size + 1, 0, none⟩ = some (.bool false) := Hr.out.cell 0
  have fr0 : W.frozen? ⟨w.heap.size + 1, 0, none⟩ = false := Hr.out.free 0
  have r1 : W.cell? ⟨w.heap.size + 1, 1, none⟩ = some (.string (bs [])) := Hr.out.cell 1
  have fr1 : W.frozen? ⟨w.heap.size + 1, 1, none⟩ = false := Hr.out.free 1
  have r2 : W.cell? ⟨w.heap.size + 1, 2, none⟩ = some (.int .i64 0) := Hr.out.cell 2
  have fr2 : W.frozen? ⟨w.heap.size + 1, 2, none⟩ = false := Hr.out.free 2
  replace Hb := Lib.hid (bnext Hb.out hbn); clear hbn
  refine wp_region_plan (fun w' => w'.cell? ⟨w.heap.size, 0, none⟩ = some (.bool s) ∧ w'.cell? ⟨w.heap.size, 1, none⟩ = some (.string (bs l)) ∧ w'.cell? ⟨w.heap.size, 2, none⟩ = some (.int .i64 e)) (fun i => Nat.blt i 6) [(0, true), (1, true), (3, true), (4, true), (2, false), (5, false), (6, false)] (by kernel_rfl) (by kernel_rfl) rfl (by kernel_rfl) (fun o c a v w => by cases o.dst <;> exact id) ⟨x0, x1, x2⟩ ?_
  refine planT rfl rfl (v := ?_) (fun w' hw' => ?_) ?_; rotate_left; focus (go_simp; try with_reducible rfl)
  try simp only [Act.put, List.setIfInBounds_toArray, List.set_cons_zero, List.set_cons_succ]
  refine planT rfl rfl (v := ?_) (fun w' hw' => ?_) ?_; rotate_left; focus (obtain ⟨q0, q1, q2⟩ := hw'; go_simp; try with_reducible rfl)
  try simp only [Act.put, List.setIfInBounds_toArray, List.set_cons_zero, List.set_cons_succ]
  refine planT rfl rfl (v := ?_) (fun w' hw' => ?_) ?_; rotate_left; focus (go_simp; try with_reducible rfl)
  try simp only [Act.put, List.setIfInBounds_toArray, List.set_cons_zero, List.set_cons_succ]
  refine planT rfl rfl (v := ?_) (fun w' hw' => ?_) ?_; rotate_left; focus (obtain ⟨q0, q1, q2⟩ := hw'; go_simp; try with_reducible rfl)
  try simp only [Act.put, List.setIfInBounds_toArray, List.set_cons_zero, List.set_cons_succ]
  refine planF rfl rfl (fun K hK => ?_)
  go_simp
  with_reducible refine (wNeg_as s l N HN.out _ Hl0.out).mono ?_
  rintro e w1 ⟨rfl, hq⟩
  have hbn : Below W.heap.size W w1 := (by first | exact hq | exact bundrew hq); clear hq
  clear x0 x1 x2
  clear r0 fr0 r1 fr1 r2 fr2
  replace Hx := Lib.hid (Hx.out.below hbn)
  replace Hr := Lib.hid (Hr.out.below hbn)
  have x0 : w1.cell? ⟨w.heap.size, 0, none⟩ = some (.bool s) := Hx.out.cell 0
  have x1 : w1.cell? ⟨w.heap.size, 1, none⟩ = some (.string (bs l)) := Hx.out.cell 1
  have x2 : w1.cell? ⟨w.heap.size, 2, none⟩ = some (.int .i64 e) := Hx.out.cell 2
  have r0 : w1.cell? ⟨w.heap.size + 1, 0, none⟩ = some (.bool false) := Hr.out.cell 0
  have fr0 : w1.frozen? ⟨w.heap.size + 1, 0, none⟩ = false := Hr.out.free 0
  have r1 : w1.cell? ⟨w.heap.size + 1, 1, none⟩ = some (.string (bs [])) := Hr.out.cell 1
  have fr1 : w1.frozen? ⟨w.heap.size + 1, 1, none⟩ = false := Hr.out.free 1
  have r2 : w1.cell? ⟨w.heap.size + 1, 2, none⟩ = some (.int .i64 0) := Hr.out.cell 2
  have fr2 : w1.frozen? ⟨w.heap.size + 1, 2, none⟩ = false := Hr.out.free 2
  replace Hb := Lib.hid (bnext Hb.out hbn); clear hbn
  refine hK _ _ (fun _ => ⟨x0, x1, x2⟩) ?_; clear hK K
  try simp only [Act.put, List.setIfInBounds_toArray, List.set_cons_zero, List.set_cons_succ]
  refine planF rfl rfl (fun K hK => ?_)
  go_simp
  with_reducible refine (make_any (sgnB N) (nt N.natAbs) e D HD.out _ Hl.out He.out (hT.below Hb.out)).mono ?_
  rintro e w2 ⟨rfl, hq⟩
  have hbn : Below w1.heap.size w1 w2 := (by first | exact hq | exact bundrew hq); clear hq
  clear x0 x1 x2
  clear r0 fr0 r1 fr1 r2 fr2
  replace Hx := Lib.hid (Hx.out.below hbn)
  replace Hr := Lib.hid (Hr.out.below hbn)
  have x0 : w2.cell? ⟨w.heap.size, 0, none⟩ = some (.bool s) := Hx.out.cell 0
  have x1 : w2.cell? ⟨w.heap.size, 1, none⟩ = some (.string (bs l)) := Hx.out.cell 1
  have x2 : w2.cell? ⟨w.heap.size, 2, none⟩ = some (.int .i64 e) := Hx.out.cell 2
  have r0 : w2.cell? ⟨w.heap.size + 1, 0, none⟩ = some (.bool false) := Hr.out.cell 0
  have fr0 : w2.frozen? ⟨w.heap.size + 1, 0, none⟩ = false := Hr.out.free 0
  have r1 : w2.cell? ⟨w.heap.size + 1, 1, none⟩ = some (.string (bs [])) := Hr.out.cell 1
  have fr1 : w2.frozen? ⟨w.heap.size + 1, 1, none⟩ = false := Hr.out.free 1
  have r2 : w2.cell? ⟨w.heap.size + 1, 2, none⟩ = some (.int .i64 0) := Hr.out.cell 2
  have fr2 : w2.frozen? ⟨w.heap.size + 1, 2, none⟩ = false := Hr.out.free 2
  replace Hb := Lib.hid (bnext Hb.out hbn); clear hbn
  refine hK _ _ (fun _ => ⟨x0, x1, x2⟩) ?_; clear hK K
  try simp only [Act.put, List.setIfInBounds_toArray, List.set_cons_zero, List.set_cons_succ]
  refine planF rfl rfl (fun K hK => ?_)
  go_simp
  refine hK _ _ (fun h => absurd h (by decide)) ?_; clear hK K
  try simp only [Act.put, List.setIfInBounds_toArray, List.set_cons_zero, List.set_cons_succ]
  clear x0 x1 x2
  clear r0 fr0 r1 fr1 r2 fr2
  refine plan_world (fun w3 => Blk w3 (w.heap.size) 36 [.bool s, .string (bs l), .int .i64 e] ∧ Blk w3 (w.heap.size + 1) 36 [.bool (sgnB (dN D)), .string (bs (nt (dN D).natAbs)), .int .i64 (dE D)] ∧ Below w.heap.size w w3) (by first | exact ⟨(((Hx.out.set_other ⟨w.heap.size + 1, 0, none⟩ (by first | (dsimp only; omega) | (simp <;> omega)) _).set_other ⟨w.heap.size + 1, 1, none⟩ (by first | (dsimp only; omega) | (simp <;> omega)) _).set_other ⟨w.heap.size + 1, 2, none⟩ (by first | (dsimp only; omega) | (simp <;> omega)) _), (((Hr.out.set 0 _).set 1 _).set 2 _), (((Hb.out.setCell (p := ⟨w.heap.size + 1, 0, none⟩) (by have := Hb.out.size; first | (dsimp only; omega) | (simp <;> omega)) _).setCell (p := ⟨w.heap.size + 1, 1, none⟩) (by have := Hb.out.size; first | (dsimp only; omega) | (simp <;> omega)) _).setCell (p := ⟨w.heap.size + 1, 2, none⟩) (by have := Hb.out.size; first | (dsimp only; omega) | (simp <;> omega)) _)⟩ | exact ⟨(((Hx.out.set_other ⟨w.heap.size + 1, 0, none⟩ (by first | (dsimp only; omega) | (simp <;> omega)) _).set_other ⟨w.heap.size + 1, 1, none⟩ (by first | (dsimp only; omega) | (simp <;> omega)) _).set_other ⟨w.heap.size + 1, 2, none⟩ (by first | (dsimp only; omega) | (simp <;> omega)) _), (((Hr.out.set 0 _).set 1 _).set 2 _), Below.drew (((Hb.out.setCell (p := ⟨w.heap.size + 1, 0, none⟩) (by have := Hb.out.size; first | (dsimp only; omega) | (simp <;> omega)) _).setCell (p := ⟨w.heap.size + 1, 1, none⟩) (by have := Hb.out.size; first | (dsimp only; omega) | (simp <;> omega)) _).setCell (p := ⟨w.heap.size + 1, 2, none⟩) (by have := Hb.out.size; first | (dsimp only; omega) | (simp <;> omega)) _)⟩) ?_
  rintro w3 ⟨qx, qr, hbn⟩
  replace Hx := Lib.hid qx; clear qx
  replace Hr := Lib.hid qr; clear qr
  have x0 : w3.cell? ⟨w.heap.size, 0, none⟩ = some (.bool s) := Hx.out.cell 0
  have x1 : w3.cell? ⟨w.heap.size, 1, none⟩ = some (.string (bs l)) := Hx.out.cell 1
  have x2 : w3.cell? ⟨w.heap.size, 2, none⟩ = some (.int .i64 e) := Hx.out.cell 2
  have r0 : w3.cell? ⟨w.heap.size + 1, 0, none⟩ = some (.bool (sgnB (dN D))) := Hr.out.cell 0
  have fr0 : w3.frozen? ⟨w.heap.size + 1, 0, none⟩ = false := Hr.out.free 0
  have r1 : w3.cell? ⟨w.heap.size + 1, 1, none⟩ = some (.string (bs (nt (dN D).natAbs))) := Hr.out.cell 1
  have fr1 : w3.frozen? ⟨w.heap.size + 1, 1, none⟩ = false := Hr.out.free 1
  have r2 : w3.cell? ⟨w.heap.size + 1, 2, none⟩ = some (.int .i64 (dE D)) := Hr.out.cell 2
  have fr2 : w3.frozen? ⟨w.heap.size + 1, 2, none⟩ = false := Hr.out.free 2
  replace Hb := Lib.hid hbn; clear hbn
  simp only [wpPlan]
  go_wp2
  refine bodyPost_ret (v := numV D) (by simp [results, Tryz.results102, go_sem, r0, r1, r2]) rfl ⟨rfl, ?_⟩
  (repeat first | exact Hb.out | (refine Below.setCell ?_ (by have := Hb.out.size; first | (dsimp only; omega) | (show _ ≤ _; omega) | (simp <;> omega)) _) | (refine Below.alloc ?_ (by have := Hb.out.size; simp <;> omega) _) | refine Below.drew ?_)
end Go.Proofs.YtidjljldhdckiaaGreatDoor
