/- Package whole, on: Sub, Cmp, Mul, Shift. -/
import Derived.Test.YtidjljldhdckiaaGreatDoorJWhole1
import Derived.Deep.DeepCutAuto
namespace Go.Proofs.YtidjljldhdckiaaGreatDoor
open Go.RowKit
attribute [local go_sem ↓] Go.wp_at_zero Go.wp_at_succ

theorem wAdd_two (s : Bool) (l : List UInt8) (t : Bool) (m : List UInt8) (b cap : Nat) (ty : TypeId) (w : World) (hl : l.length ≤ 34359738368) (hm : m.length ≤ 34359738368)
    (ha : Blk w b ty [.bool s, .string (bs l), .bool t, .string (bs m)]) :
    Calls Tryz.prog 50 #[.slice (some ⟨b, 0, none⟩) 2 cap] w fun e w' => e = .returned (intV (iv s l + iv t m)) ∧ Below w.heap.size w w' := by
  have := wAdd_any [(s, l), (t, m)] (some ⟨b, 0, none⟩) cap w (by simp [hl, hm]) (by simp) (At.of_blk ha)
  have e : isum [(s, l), (t, m)] = iv s l + iv t m := by simp [isum]
  rw [e] at this
  exact this

theorem neg_len (s : Bool) (m : List UInt8) (B : Nat) (hm : m.length ≤ B) : (nt (-(iv s m)).natAbs).length ≤ B := by
  rw [Int.natAbs_neg, iv_abs]
  exact nt_length_le (Nat.lt_of_lt_of_le (nv_lt m) (Nat.pow_le_pow_right (by decide) hm))

theorem wNeg_as (s : Bool) (l : List UInt8) (N : Int) (hN : -(iv s l) = N) (w : World) (hl : l.length ≤ 1099511627776) :
    Calls Tryz.prog 115 #[.agg #[.bool s, .string (bs l)]] w fun e w' => e = .returned (intV N) ∧ Below w.heap.size w w' := by
  subst hN; exact wNeg_any s l w hl

set_option maxHeartbeats 1000000 in
theorem wSub_any (s : Bool) (l : List UInt8) (t : Bool) (m : List UInt8) (w : World) (hl : l.length ≤ 34359738368) (hm : m.length ≤ 34359738368) :
    Calls Tryz.prog 94 #[.agg #[.bool s, .string (bs l)], .agg #[.bool t, .string (bs m)]] w fun e w' => e = .returned (intV (iv s l - iv t m)) ∧ Below w.heap.size w w' := by
  have hm2 := neg_len t m 34359738368 hm
  have He : Hid (iv s l + iv (sgnB (-(iv t m))) (nt (-(iv t m)).natAbs) = iv s l - iv t m) := by show _ = _; rw [iv_int]; omega
  generalize hN : -(iv t m) = N at *
  have HN := Lib.hid hN; clear hN
  go_enter Tryz.func94, Tryz.ntmps94
  have Hb : Hid (Below w.heap.size w w) := Below.refl _ _
  go_wp2_with fail
  first | refine wp_world (fun W => Blk W (w.heap.size) 34 [.bool s, .string (bs l)] ∧ Blk W (w.heap.size + 1) 34 [.bool t, .string (bs m)] ∧ Blk W (w.heap.size + 1 + 1) 34 [.bool false, .string (bs [])] ∧ Below w.heap.size w W) ?hR ?_ | refine calls_world (fun W => Blk W (w.heap.size) 34 [.bool s, .string (bs l)] ∧ Blk W (w.heap.size + 1) 34 [.bool t, .string (bs m)] ∧ Blk W (w.heap.size + 1 + 1) 34 [.bool false, .string (bs [])] ∧ Below w.heap.size w W) ?hR ?_
  case hR => exact ⟨(((Blk.newAt w _ _ (b := w.heap.size) rfl).alloc _).alloc _), ((Blk.newAt (w.alloc _) _ _ (b := w.heap.size + 1) (by simp)).alloc _), (Blk.newAt ((w.alloc _).alloc _) _ _ (b := w.heap.size + 1 + 1) (by simp)), ((((Below.refl _ _).alloc (Nat.le_refl _) _).alloc (by simp <;> omega) _).alloc (by simp <;> omega) _)⟩
  rintro W ⟨qx, qy, qr, hbn⟩
  have Hx := Lib.hid qx; clear qx
  have Hy := Lib.hid qy; clear qy
  have Hr := Lib.hid qr; clear qr
  have x0 : W.cell? ⟨w.heap.size, 0, none⟩ = some (.bool s) := Hx.out.cell 0
  have x1 : W.cell? ⟨w.heap.size, 1, none⟩ = some (.string (bs l)) := Hx.out.cell 1
  have y0 : W.cell? ⟨w.heap.size + 1, 0, none⟩ = some (.bool t) := Hy.out.cell 0
  have y1 : W.cell? ⟨w.heap.size + 1, 1, none⟩ = some (.string (bs m)) := Hy.out.cell 1
  have r0 : W.cell? ⟨w.heap.size + 1 + 1, 0, none⟩ = some (.bool false) := Hr.out.cell 0
  have fr0 : W.frozen? ⟨w.heap.size + 1 + 1, 0, none⟩ = false := Hr.out.free 0
  have r1 : W.cell? ⟨w.heap.size + 1 + 1, 1, none⟩ = some (.string (bs [])) := Hr.out.cell 1
  have fr1 : W.frozen? ⟨w.heap.size + 1 + 1, 1, none⟩ = false := Hr.out.free 1
  replace Hb := Lib.hid (bnext Hb.out hbn); clear hbn
  have nex : w.heap.size ≠ w.heap.size + 1 + 1 := by omega
  have ney : w.heap.size + 1 ≠ w.heap.size + 1 + 1 := by omega
  go_region_held3 (fun w' => w'.cell? ⟨w.heap.size, 0, none⟩ = some (.bool s) ∧ w'.cell? ⟨w.heap.size, 1, none⟩ = some (.string (bs l)) ∧ w'.cell? ⟨w.heap.size + 1, 0, none⟩ = some (.bool t) ∧ w'.cell? ⟨w.heap.size + 1, 1, none⟩ = some (.string (bs m))) (((try dsimp only); go_split_ands; (repeat' apply And.intro) <;> (first | exact True.intro | with_reducible assumption | ((with_reducible refine cell_set_ne (by first | (dsimp only; omega) | (show _ ≠ _; omega) | (simp <;> omega)) ?_); (repeat (with_reducible refine cell_set_ne (by first | (dsimp only; omega) | (show _ ≠ _; omega) | (simp <;> omega)) ?_)); with_reducible assumption) | exact cell_later (by with_reducible assumption) (by with_reducible assumption) | exact cell_new (by with_reducible assumption) | go_keep))) (first | (go_at_call 115; (with_reducible refine (wNeg_as t m N HN.out _ (by omega)).mono ?_); rintro e w1 ⟨rfl, hq⟩; have hw1 : Below W.heap.size W w1 := (by first | exact bundrew hq | exact hq | exact ballocd hq | exact balloc hq | exact ballocx hq); clear hq; have Hx_w1 := Lib.hid (Hx.out.below hw1); have x0_w1 : w1.cell? ⟨w.heap.size, 0, none⟩ = some (.bool s) := Hx_w1.out.cell 0; have x1_w1 : w1.cell? ⟨w.heap.size, 1, none⟩ = some (.string (bs l)) := Hx_w1.out.cell 1; have Hy_w1 := Lib.hid (Hy.out.below hw1); have y0_w1 : w1.cell? ⟨w.heap.size + 1, 0, none⟩ = some (.bool t) := Hy_w1.out.cell 0; have y1_w1 : w1.cell? ⟨w.heap.size + 1, 1, none⟩ = some (.string (bs m)) := Hy_w1.out.cell 1; have Hr_w1 := Lib.hid (Hr.out.below hw1); have r0_w1 : w1.cell? ⟨w.heap.size + 1 + 1, 0, none⟩ = some (.bool false) := Hr_w1.out.cell 0; have fr0_w1 : w1.frozen? ⟨w.heap.size + 1 + 1, 0, none⟩ = false := Hr_w1.out.free 0; have r1_w1 : w1.cell? ⟨w.heap.size + 1 + 1, 1, none⟩ = some (.string (bs [])) := Hr_w1.out.cell 1; have fr1_w1 : w1.frozen? ⟨w.heap.size + 1 + 1, 1, none⟩ = false := Hr_w1.out.free 1) | (go_at_call 50; (with_reducible refine (wAdd_two s l (sgnB N) (nt N.natAbs) w1.heap.size 2 34 _ hl hm2 (by first | exact Blk.drew (Blk.new _ _ _) | exact Blk.new _ _ _)).mono ?_); rintro e w2 ⟨rfl, hq⟩; have hw2 : Below w1.heap.size w1 w2 := (by first | exact bundrew hq | exact hq | exact ballocd hq | exact balloc hq | exact ballocx hq); clear hq; have Hx_w2 := Lib.hid (Hx_w1.out.below hw2); have x0_w2 : w2.cell? ⟨w.heap.size, 0, none⟩ = some (.bool s) := Hx_w2.out.cell 0; have x1_w2 : w2.cell? ⟨w.heap.size, 1, none⟩ = some (.string (bs l)) := Hx_w2.out.cell 1; have Hy_w2 := Lib.hid (Hy_w1.out.below hw2); have y0_w2 : w2.cell? ⟨w.heap.size + 1, 0, none⟩ = some (.bool t) := Hy_w2.out.cell 0; have y1_w2 : w2.cell? ⟨w.heap.size + 1, 1, none⟩ = some (.string (bs m)) := Hy_w2.out.cell 1; have Hr_w2 := Lib.hid (Hr_w1.out.below hw2); have r0_w2 : w2.cell? ⟨w.heap.size + 1 + 1, 0, none⟩ = some (.bool false) := Hr_w2.out.cell 0; have fr0_w2 : w2.frozen? ⟨w.heap.size + 1 + 1, 0, none⟩ = false := Hr_w2.out.free 0; have r1_w2 : w2.cell? ⟨w.heap.size + 1 + 1, 1, none⟩ = some (.string (bs [])) := Hr_w2.out.cell 1; have fr1_w2 : w2.frozen? ⟨w.heap.size + 1 + 1, 1, none⟩ = false := Hr_w2.out.free 1))
  replace Hb := Lib.hid (bnext Hb.out hw1); clear hw1
  replace Hb := Lib.hid (bnext Hb.out hw2); clear hw2
  clear x0 x1
  clear y0 y1
  clear r0 fr0 r1 fr1
  replace Hx := Hx_w2
  clear Hx_w1
  clear x0_w1
  clear x1_w1
  clear x0_w2
  clear x1_w2
  replace Hy := Hy_w2
  clear Hy_w1
  clear y0_w1
  clear y1_w1
  clear y0_w2
  clear y1_w2
  replace Hr := Hr_w2
  clear Hr_w1
  clear r0_w1 fr0_w1
  clear r1_w1 fr1_w1
  clear r0_w2 fr0_w2
  clear r1_w2 fr1_w2
  have x0 : w2.cell? ⟨w.heap.size, 0, none⟩ = some (.bool s) := Hx.out.cell 0
  have x1 : w2.cell? ⟨w.heap.size, 1, none⟩ = some (.string (bs l)) := Hx.out.cell 1
  have y0 : w2.cell? ⟨w.heap.size + 1, 0, none⟩ = some (.bool t) := Hy.out.cell 0
  have y1 : w2.cell? ⟨w.heap.size + 1, 1, none⟩ = some (.string (bs m)) := Hy.out.cell 1
  have r0 : w2.cell? ⟨w.heap.size + 1 + 1, 0, none⟩ = some (.bool false) := Hr.out.cell 0
  have fr0 : w2.frozen? ⟨w.heap.size + 1 + 1, 0, none⟩ = false := Hr.out.free 0
  have r1 : w2.cell? ⟨w.heap.size + 1 + 1, 1, none⟩ = some (.string (bs [])) := Hr.out.cell 1
  have fr1 : w2.frozen? ⟨w.heap.size + 1 + 1, 1, none⟩ = false := Hr.out.free 1
  rw [He.out]
  go_wp2
  refine bodyPost_ret (v := intV (iv s l - iv t m)) (by simp [results, Tryz.results94, go_sem, r0, r1]) rfl ⟨rfl, ?_⟩
  (repeat first | exact Hb.out | (refine Below.setCell ?_ (by have := Hb.out.size; first | (dsimp only; omega) | (show _ ≤ _; omega) | (simp <;> omega)) _) | (refine Below.alloc ?_ (by have := Hb.out.size; simp <;> omega) _) | refine Below.drew ?_)

set_option maxHeartbeats 1000000 in
theorem wCmp_any (s : Bool) (l : List UInt8) (t : Bool) (m : List UInt8) (w : World) (hl : l.length ≤ 34359738368) (hm : m.length ≤ 34359738368) (hd : (nt (iv s l - iv t m).natAbs).length ≤ 1099511627776) :
    Calls Tryz.prog 80 #[.agg #[.bool s, .string (bs l)], .agg #[.bool t, .string (bs m)]] w fun e w' => e = .returned (.int .i64 (sgnI (iv s l - iv t m))) ∧ Below w.heap.size w w' := by
  have Hi := Lib.hid (iv_int (iv s l - iv t m))
  go_enter Tryz.func80, Tryz.ntmps80
  have Hb : Hid (Below w.heap.size w w) := Below.refl _ _
  go_wp2_with fail
  first | refine wp_world (fun W => Blk W (w.heap.size) 34 [.bool s, .string (bs l)] ∧ Blk W (w.heap.size + 1) 34 [.bool t, .string (bs m)] ∧ Below w.heap.size w W) ?hR ?_ | refine calls_world (fun W => Blk W (w.heap.size) 34 [.bool s, .string (bs l)] ∧ Blk W (w.heap.size + 1) 34 [.bool t, .string (bs m)] ∧ Below w.heap.size w W) ?hR ?_
  case hR => exact ⟨((Blk.newAt w _ _ (b := w.heap.size) rfl).alloc _), (Blk.newAt (w.alloc _) _ _ (b := w.heap.size + 1) (by simp)), (((Below.refl _ _).alloc (Nat.le_refl _) _).alloc (by simp <;> omega) _)⟩
  rintro W ⟨qx, qy, hbn⟩
  have Hx := Lib.hid qx; clear qx
  have Hy := Lib.hid qy; clear qy
  have x0 : W.cell? ⟨w.heap.size, 0, none⟩ = some (.bool s) := Hx.out.cell 0
  have x1 : W.cell? ⟨w.heap.size, 1, none⟩ = some (.string (bs l)) := Hx.out.cell 1
  have y0 : W.cell? ⟨w.heap.size + 1, 0, none⟩ = some (.bool t) := Hy.out.cell 0
  have y1 : W.cell? ⟨w.heap.size + 1, 1, none⟩ = some (.string (bs m)) := Hy.out.cell 1
  replace Hb := Lib.hid (bnext Hb.out hbn); clear hbn
  go_wp2_with fail
  refine (wSub_any s l t m _ hl hm).mono ?_
  rintro e w1 ⟨rfl, hbn⟩
  clear x0 x1
  clear y0 y1
  replace Hx := Lib.hid (Hx.out.below hbn)
  replace Hy := Lib.hid (Hy.out.below hbn)
  have x0 : w1.cell? ⟨w.heap.size, 0, none⟩ = some (.bool s) := Hx.out.cell 0
  have x1 : w1.cell? ⟨w.heap.size, 1, none⟩ = some (.string (bs l)) := Hx.out.cell 1
  have y0 : w1.cell? ⟨w.heap.size + 1, 0, none⟩ = some (.bool t) := Hy.out.cell 0
  have y1 : w1.cell? ⟨w.heap.size + 1, 1, none⟩ = some (.string (bs m)) := Hy.out.cell 1
  replace Hb := Lib.hid (bnext Hb.out hbn); clear hbn
  go_wp2_with fail
  refine (wSign_any (sgnB (iv s l - iv t m)) (nt (iv s l - iv t m).natAbs) _ hd).mono ?_
  rintro e w2 ⟨rfl, hbn⟩
  clear x0 x1
  clear y0 y1
  replace Hx := Lib.hid (Hx.out.below hbn)
  replace Hy := Lib.hid (Hy.out.below hbn)
  have x0 : w2.cell? ⟨w.heap.size, 0, none⟩ = some (.bool s) := Hx.out.cell 0
  have x1 : w2.cell? ⟨w.heap.size, 1, none⟩ = some (.string (bs l)) := Hx.out.cell 1
  have y0 : w2.cell? ⟨w.heap.size + 1, 0, none⟩ = some (.bool t) := Hy.out.cell 0
  have y1 : w2.cell? ⟨w.heap.size + 1, 1, none⟩ = some (.string (bs m)) := Hy.out.cell 1
  replace Hb := Lib.hid (bnext Hb.out hbn); clear hbn
  rw [Hi.out]
  go_wp2
  go_ret
  exact ⟨rfl, Hb.out⟩

set_option maxHeartbeats 1000000 in
theorem wShl_any (s : Bool) (l : List UInt8) (n : Nat) (w : World) (hl : l.length ≤ 68719476736) (hn : n ≤ 549755813888) :
    Calls Tryz.prog 69 #[.agg #[.bool s, .string (bs l)], .int .i64 (n : Int)] w fun e w' => e = .returned (intV (iv s l * 2 ^ n)) ∧ Below w.heap.size w w' := by
  have hlen : (nt (nv l * 2 ^ n)).length ≤ 1099511627776 := by
    have h1 : nv l * 2 ^ n < 2 ^ (8 * l.length + n) := by
      rw [Nat.pow_add, Nat.pow_mul]
      exact Nat.mul_lt_mul_of_pos_right (nv_lt l) (Nat.pow_pos (by decide))
    have h2 := blen_le h1
    rw [nt_length]; omega
  have He : Hid (iv s (nt (nv l * 2 ^ n)) = iv s l * 2 ^ n) := by
    show _ = _
    rw [iv_num]; unfold iv; cases s <;> simp [Int.natCast_mul, Int.natCast_pow, Int.neg_mul]
  go_enter Tryz.func69, Tryz.ntmps69
  have Hb : Hid (Below w.heap.size w w) := Below.refl _ _
  go_wp2_with fail
  first | refine wp_world (fun W => Blk W (w.heap.size) 34 [.bool s, .string (bs l)] ∧ Blk W (w.heap.size + 1) 34 [.bool false, .string (bs [])] ∧ Below w.heap.size w W) ?hR ?_ | refine calls_world (fun W => Blk W (w.heap.size) 34 [.bool s, .string (bs l)] ∧ Blk W (w.heap.size + 1) 34 [.bool false, .string (bs [])] ∧ Below w.heap.size w W) ?hR ?_
  case hR => exact ⟨((Blk.newAt w _ _ (b := w.heap.size) rfl).alloc _), (Blk.newAt (w.alloc _) _ _ (b := w.heap.size + 1) (by simp)), (((Below.refl _ _).alloc (Nat.le_refl _) _).alloc (by simp <;> omega) _)⟩
  rintro W ⟨qx, qr, hbn⟩
  have Hx := Lib.hid qx; clear qx
  have Hr := Lib.hid qr; clear qr
  have x0 : W.cell? ⟨w.heap.size, 0, none⟩ = some (.bool s) := Hx.out.cell 0
  have x1 : W.cell? ⟨w.heap.size, 1, none⟩ = some (.string (bs l)) := Hx.out.cell 1
  have r0 : W.cell? ⟨w.heap.size + 1, 0, none⟩ = some (.bool false) := Hr.out.cell 0
  have fr0 : W.frozen? ⟨w.heap.size + 1, 0, none⟩ = false := Hr.out.free 0
  have r1 : W.cell? ⟨w.heap.size + 1, 1, none⟩ = some (.string (bs [])) := Hr.out.cell 1
  have fr1 : W.frozen? ⟨w.heap.size + 1, 1, none⟩ = false := Hr.out.free 1
  replace Hb := Lib.hid (bnext Hb.out hbn); clear hbn
  have nex : w.heap.size ≠ w.heap.size + 1 := by omega
  go_region_held3 (fun w' => w'.cell? ⟨w.heap.size, 0, none⟩ = some (.bool s) ∧ w'.cell? ⟨w.heap.size, 1, none⟩ = some (.string (bs l))) (((try dsimp only); go_split_ands; (repeat' apply And.intro) <;> (first | exact True.intro | with_reducible assumption | ((with_reducible refine cell_set_ne (by first | (dsimp only; omega) | (show _ ≠ _; omega) | (simp <;> omega)) ?_); (repeat (with_reducible refine cell_set_ne (by first | (dsimp only; omega) | (show _ ≠ _; omega) | (simp <;> omega)) ?_)); with_reducible assumption) | exact cell_later (by with_reducible assumption) (by with_reducible assumption) | exact cell_new (by with_reducible assumption) | go_keep))) (first | (go_at_call 91; (with_reducible refine (natShl_any l n _ hl hn).mono ?_); rintro e w1 ⟨rfl, hq⟩; have hw1 : Below W.heap.size W w1 := (by first | exact bundrew hq | exact hq | exact ballocd hq | exact balloc hq | exact ballocx hq); clear hq; have Hx_w1 := Lib.hid (Hx.out.below hw1); have x0_w1 : w1.cell? ⟨w.heap.size, 0, none⟩ = some (.bool s) := Hx_w1.out.cell 0; have x1_w1 : w1.cell? ⟨w.heap.size, 1, none⟩ = some (.string (bs l)) := Hx_w1.out.cell 1; have Hr_w1 := Lib.hid (Hr.out.below hw1); have r0_w1 : w1.cell? ⟨w.heap.size + 1, 0, none⟩ = some (.bool false) := Hr_w1.out.cell 0; have fr0_w1 : w1.frozen? ⟨w.heap.size + 1, 0, none⟩ = false := Hr_w1.out.free 0; have r1_w1 : w1.cell? ⟨w.heap.size + 1, 1, none⟩ = some (.string (bs [])) := Hr_w1.out.cell 1; have fr1_w1 : w1.frozen? ⟨w.heap.size + 1, 1, none⟩ = false := Hr_w1.out.free 1) | (go_at_call 73; (with_reducible refine (made_any (nt (nv l * 2 ^ n)) s _ hlen).mono ?_); rintro e w2 ⟨rfl, hq⟩; have hw2 : Below w1.heap.size w1 w2 := (by first | exact bundrew hq | exact hq | exact ballocd hq | exact balloc hq | exact ballocx hq); clear hq; have Hx_w2 := Lib.hid (Hx_w1.out.below hw2); have x0_w2 : w2.cell? ⟨w.heap.size, 0, none⟩ = some (.bool s) := Hx_w2.out.cell 0; have x1_w2 : w2.cell? ⟨w.heap.size, 1, none⟩ = some (.string (bs l)) := Hx_w2.out.cell 1; have Hr_w2 := Lib.hid (Hr_w1.out.below hw2); have r0_w2 : w2.cell? ⟨w.heap.size + 1, 0, none⟩ = some (.bool false) := Hr_w2.out.cell 0; have fr0_w2 : w2.frozen? ⟨w.heap.size + 1, 0, none⟩ = false := Hr_w2.out.free 0; have r1_w2 : w2.cell? ⟨w.heap.size + 1, 1, none⟩ = some (.string (bs [])) := Hr_w2.out.cell 1; have fr1_w2 : w2.frozen? ⟨w.heap.size + 1, 1, none⟩ = false := Hr_w2.out.free 1))
  replace Hb := Lib.hid (bnext Hb.out hw1); clear hw1
  replace Hb := Lib.hid (bnext Hb.out hw2); clear hw2
  clear x0 x1
  clear r0 fr0 r1 fr1
  replace Hx := Hx_w2
  clear Hx_w1
  clear x0_w1
  clear x1_w1
  clear x0_w2
  clear x1_w2
  replace Hr := Hr_w2
  clear Hr_w1
  clear r0_w1 fr0_w1
  clear r1_w1 fr1_w1
  clear r0_w2 fr0_w2
  clear r1_w2 fr1_w2
  have x0 : w2.cell? ⟨w.heap.size, 0, none⟩ = some (.bool s) := Hx.out.cell 0
  have x1 : w2.cell? ⟨w.heap.size, 1, none⟩ = some (.string (bs l)) := Hx.out.cell 1
  have r0 : w2.cell? ⟨w.heap.size + 1, 0, none⟩ = some (.bool false) := Hr.out.cell 0
  have fr0 : w2.frozen? ⟨w.heap.size + 1, 0, none⟩ = false := Hr.out.free 0
  have r1 : w2.cell? ⟨w.heap.size + 1, 1, none⟩ = some (.string (bs [])) := Hr.out.cell 1
  have fr1 : w2.frozen? ⟨w.heap.size + 1, 1, none⟩ = false := Hr.out.free 1
  rw [He.out]
  go_wp2
  refine bodyPost_ret (v := intV (iv s l * 2 ^ n)) (by simp [results, Tryz.results69, go_sem, r0, r1]) rfl ⟨rfl, ?_⟩
  (repeat first | exact Hb.out | (refine Below.setCell ?_ (by have := Hb.out.size; first | (dsimp only; omega) | (show _ ≤ _; omega) | (simp <;> omega)) _) | (refine Below.alloc ?_ (by have := Hb.out.size; simp <;> omega) _) | refine Below.drew ?_)
end Go.Proofs.YtidjljldhdckiaaGreatDoor
