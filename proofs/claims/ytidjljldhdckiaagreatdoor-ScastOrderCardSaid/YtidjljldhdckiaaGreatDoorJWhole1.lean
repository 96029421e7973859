/- Package whole: what the calls answer. -/
import Derived.Test.YtidjljldhdckiaaGreatDoorKWalk
namespace Go.Proofs.YtidjljldhdckiaaGreatDoor
open Go.RowKit
attribute [local go_sem ↓] Go.wp_at_zero Go.wp_at_succ

/-- The whole number that a sign and bytes say. -/
def iv (s : Bool) (l : List UInt8) : Int := if s then -(nv l : Int) else (nv l : Int)
theorem iv_abs (s : Bool) (l : List UInt8) : (iv s l).natAbs = nv l := by unfold iv; split <;> omega
/-- Is a number below 0? -/
def sgnB (n : Int) : Bool := decide (n < 0)
theorem iv_neg (s : Bool) (l : List UInt8) : sgnB (iv s l) = (s && !(nt (nv l)).isEmpty) := by
  unfold sgnB
  have h : (nt (nv l)).isEmpty = decide (nv l = 0) := by
    rw [Bool.eq_iff_iff, List.isEmpty_iff, nt_nil_iff, decide_eq_true_iff]
  rw [h]
  unfold iv
  cases s <;> simp
  by_cases h0 : nv l = 0 <;> simp [h0]; omega
/-- A whole number's one form. -/
abbrev intV (n : Int) : Value := .agg #[.bool (sgnB n), .string (bs (nt n.natAbs))]
theorem iv_int (n : Int) : iv (sgnB n) (nt n.natAbs) = n := by
  unfold iv sgnB; rw [nv_nt]; by_cases h : n < 0 <;> simp [h] <;> omega
theorem iv_num (s : Bool) (n : Nat) : iv s (nt n) = if s then -(n : Int) else n := by unfold iv; rw [nv_nt]

set_option maxHeartbeats 1000000 in
theorem wof_any (l : List UInt8) (s : Bool) (w : World) :
    Calls Tryz.prog 72 #[.agg #[.bool s, .string (bs l)]] w fun e w' => e = .returned (.agg #[.string (bs l), .bool s]) ∧ Below w.heap.size w w' := by
  go_enter Tryz.func72, Tryz.ntmps72
  have Hb : Hid (Below w.heap.size w w) := Below.refl _ _
  go_wp2
  refine bodyPost_ret (v := .agg #[.string (bs l), .bool s]) (by simp [results, Tryz.results72, go_sem]) rfl ⟨rfl, ?_⟩
  (repeat first | exact Hb.out | (refine Below.setCell ?_ (by have := Hb.out.size; first | (dsimp only; omega) | (show _ ≤ _; omega) | (simp <;> omega)) _) | (refine Below.alloc ?_ (by have := Hb.out.size; simp <;> omega) _) | refine Below.drew ?_)

set_option maxHeartbeats 1000000 in
theorem made_any (l : List UInt8) (s : Bool) (w : World) (hl : l.length ≤ 1099511627776) :
    Calls Tryz.prog 73 #[.agg #[.string (bs l), .bool s]] w fun e w' => e = .returned (intV (iv s l)) ∧ Below w.heap.size w w' := by
  unfold intV
  rw [iv_abs, iv_neg]
  have hne := bs_empty (nt (nv l))
  generalize hb : (nt (nv l)).isEmpty = b at *
  have HB := Lib.hid hb; clear hb
  cases s
  · go_enter Tryz.func73, Tryz.ntmps73
    have Hb : Hid (Below w.heap.size w w) := Below.refl _ _
    go_wp2_with (go_at_call 98; refine (trim_any l _ hl).mono ?_; rintro e w1 ⟨rfl, rfl⟩)
    go_wp2
    refine bodyPost_ret (v := .agg #[.bool false, .string (bs (nt (nv l)))]) (by simp [results, Tryz.results73, go_sem]) rfl ⟨rfl, ?_⟩
    (repeat first | exact Hb.out | (refine Below.setCell ?_ (by have := Hb.out.size; first | (dsimp only; omega) | (show _ ≤ _; omega) | (simp <;> omega)) _) | (refine Below.alloc ?_ (by have := Hb.out.size; simp <;> omega) _) | refine Below.drew ?_)
  · go_enter Tryz.func73, Tryz.ntmps73
    have Hb : Hid (Below w.heap.size w w) := Below.refl _ _
    go_wp2_with (go_at_call 98; refine (trim_any l _ hl).mono ?_; rintro e w1 ⟨rfl, rfl⟩)
    go_wp2
    refine bodyPost_ret (v := .agg #[.bool !b, .string (bs (nt (nv l)))]) (by simp [results, Tryz.results73, go_sem]) rfl ⟨rfl, ?_⟩
    (repeat first | exact Hb.out | (refine Below.setCell ?_ (by have := Hb.out.size; first | (dsimp only; omega) | (show _ ≤ _; omega) | (simp <;> omega)) _) | (refine Below.alloc ?_ (by have := Hb.out.size; simp <;> omega) _) | refine Below.drew ?_)

theorem natAdd_two (l m : List UInt8) (b cap : Nat) (t : TypeId) (w : World) (hl : l.length ≤ 68719476736) (hm : m.length ≤ 68719476736) (ha : Blk w b t [.string (bs l), .string (bs m)]) :
    Calls Tryz.prog 95 #[.slice (some ⟨b, 0, none⟩) 2 cap] w fun e w' => e = .returned (.string (bs (nt (nv l + nv m)))) ∧ Below w.heap.size w w' := by
  have := natAdd_any [l, m] (some ⟨b, 0, none⟩) cap w (by simp [hl, hm]) (by simp) (At.of_blk ha)
  have e : nsum [l, m] = nv l + nv m := by simp [nsum]
  rw [e] at this
  exact this

set_option maxHeartbeats 1000000 in
theorem plus_same (l m : List UInt8) (s : Bool) (w : World) (hl : l.length ≤ 68719476736) (hm : m.length ≤ 68719476736) :
    Calls Tryz.prog 71 #[.agg #[.string (bs l), .bool s], .agg #[.string (bs m), .bool s]] w fun e w' => e = .returned (.agg #[.string (bs (nt (nv l + nv m))), .bool s]) ∧ Below w.heap.size w w' := by
  go_enter Tryz.func71, Tryz.ntmps71
  have Hb : Hid (Below w.heap.size w w) := Below.refl _ _
  go_wp2_with fail
  first | refine wp_world (fun W => Blk W (w.heap.size) 126 [.string (bs l), .bool s] ∧ Blk W (w.heap.size + 1) 126 [.string (bs m), .bool s] ∧ Blk W (w.heap.size + 1 + 1) 126 [.string (bs []), .bool false] ∧ Below w.heap.size w W) ?hR ?_ | refine calls_world (fun W => Blk W (w.heap.size) 126 [.string (bs l), .bool s] ∧ Blk W (w.heap.size + 1) 126 [.string (bs m), .bool s] ∧ Blk W (w.heap.size + 1 + 1) 126 [.string (bs []), .bool false] ∧ Below w.heap.size w W) ?hR ?_
  case hR => exact ⟨(((Blk.newAt w _ _ (b := w.heap.size) rfl).alloc _).alloc _), ((Blk.newAt (w.alloc _) _ _ (b := w.heap.size + 1) (by simp)).alloc _), (Blk.newAt ((w.alloc _).alloc _) _ _ (b := w.heap.size + 1 + 1) (by simp)), ((((Below.refl _ _).alloc (Nat.le_refl _) _).alloc (by simp <;> omega) _).alloc (by simp <;> omega) _)⟩
  rintro W ⟨qx, qy, qr, hbn⟩
  have Hx := Lib.hid qx; clear qx
  have Hy := Lib.hid qy; clear qy
  have Hr := Lib.hid qr; clear qr
  have x0 : W.cell? ⟨w.heap.size, 0, none⟩ = some (.string (bs l)) := Hx.out.cell 0
  have x1 : W.cell? ⟨w.heap.size, 1, none⟩ = some (.bool s) := Hx.out.cell 1
  have y0 : W.cell? ⟨w.heap.size + 1, 0, none⟩ = some (.string (bs m)) := Hy.out.cell 0
  have y1 : W.cell? ⟨w.heap.size + 1, 1, none⟩ = some (.bool s) := Hy.out.cell 1
  have r0 : W.cell? ⟨w.heap.size + 1 + 1, 0, none⟩ = some (.string (bs [])) := Hr.out.cell 0
  have fr0 : W.frozen? ⟨w.heap.size + 1 + 1, 0, none⟩ = false := Hr.out.free 0
  have r1 : W.cell? ⟨w.heap.size + 1 + 1, 1, none⟩ = some (.bool false) := Hr.out.cell 1
  have fr1 : W.frozen? ⟨w.heap.size + 1 + 1, 1, none⟩ = false := Hr.out.free 1
  replace Hb := Lib.hid (bnext Hb.out hbn); clear hbn
  have nex : w.heap.size ≠ w.heap.size + 1 + 1 := by omega
  have ney : w.heap.size + 1 ≠ w.heap.size + 1 + 1 := by omega
  go_region_held3 (fun w' => w'.cell? ⟨w.heap.size, 0, none⟩ = some (.string (bs l)) ∧ w'.cell? ⟨w.heap.size, 1, none⟩ = some (.bool s) ∧ w'.cell? ⟨w.heap.size + 1, 0, none⟩ = some (.string (bs m)) ∧ w'.cell? ⟨w.heap.size + 1, 1, none⟩ = some (.bool s)) (((try dsimp only); go_split_ands; (repeat' apply And.intro) <;> (first | exact True.intro | with_reducible assumption | ((with_reducible refine cell_set_ne (by first | (dsimp only; omega) | (show _ ≠ _; omega) | (simp <;> omega)) ?_); (repeat (with_reducible refine cell_set_ne (by first | (dsimp only; omega) | (show _ ≠ _; omega) | (simp <;> omega)) ?_)); with_reducible assumption) | exact cell_later (by with_reducible assumption) (by with_reducible assumption) | exact cell_new (by with_reducible assumption) | go_keep))) (first | (go_at_call 95; (with_reducible refine (natAdd_two l m W.heap.size 2 9 _ hl hm (by first | exact Blk.drew (Blk.new _ _ _) | exact Blk.new _ _ _)).mono ?_); rintro e w1 ⟨rfl, hq⟩; have hw1 : Below W.heap.size W w1 := (by first | exact bundrew hq | exact hq | exact ballocd hq | exact balloc hq | exact ballocx hq); clear hq; have Hx_w1 := Lib.hid (Hx.out.below hw1); have x0_w1 : w1.cell? ⟨w.heap.size, 0, none⟩ = some (.string (bs l)) := Hx_w1.out.cell 0; have x1_w1 : w1.cell? ⟨w.heap.size, 1, none⟩ = some (.bool s) := Hx_w1.out.cell 1; have Hy_w1 := Lib.hid (Hy.out.below hw1); have y0_w1 : w1.cell? ⟨w.heap.size + 1, 0, none⟩ = some (.string (bs m)) := Hy_w1.out.cell 0; have y1_w1 : w1.cell? ⟨w.heap.size + 1, 1, none⟩ = some (.bool s) := Hy_w1.out.cell 1; have Hr_w1 := Lib.hid (Hr.out.below hw1); have r0_w1 : w1.cell? ⟨w.heap.size + 1 + 1, 0, none⟩ = some (.string (bs [])) := Hr_w1.out.cell 0; have fr0_w1 : w1.frozen? ⟨w.heap.size + 1 + 1, 0, none⟩ = false := Hr_w1.out.free 0; have r1_w1 : w1.cell? ⟨w.heap.size + 1 + 1, 1, none⟩ = some (.bool false) := Hr_w1.out.cell 1; have fr1_w1 : w1.frozen? ⟨w.heap.size + 1 + 1, 1, none⟩ = false := Hr_w1.out.free 1))
  replace Hb := Lib.hid (bnext Hb.out hw1); clear hw1
  clear x0 x1
  clear y0 y1
  clear r0 fr0 r1 fr1
  replace Hx := Hx_w1
  clear x0_w1
  clear x1_w1
  replace Hy := Hy_w1
  clear y0_w1
  clear y1_w1
  replace Hr := Hr_w1
  clear r0_w1 fr0_w1
  clear r1_w1 fr1_w1
  have x0 : w1.cell? ⟨w.heap.size, 0, none⟩ = some (.string (bs l)) := Hx.out.cell 0
  have x1 : w1.cell? ⟨w.heap.size, 1, none⟩ = some (.bool s) := Hx.out.cell 1
  have y0 : w1.cell? ⟨w.heap.size + 1, 0, none⟩ = some (.string (bs m)) := Hy.out.cell 0
  have y1 : w1.cell? ⟨w.heap.size + 1, 1, none⟩ = some (.bool s) := Hy.out.cell 1
  have r0 : w1.cell? ⟨w.heap.size + 1 + 1, 0, none⟩ = some (.string (bs [])) := Hr.out.cell 0
  have fr0 : w1.frozen? ⟨w.heap.size + 1 + 1, 0, none⟩ = false := Hr.out.free 0
  have r1 : w1.cell? ⟨w.heap.size + 1 + 1, 1, none⟩ = some (.bool false) := Hr.out.cell 1
  have fr1 : w1.frozen? ⟨w.heap.size + 1 + 1, 1, none⟩ = false := Hr.out.free 1
  go_wp2
  refine bodyPost_ret (v := .agg #[.string (bs (nt (nv l + nv m))), .bool s]) (by simp [results, Tryz.results71, go_sem, r0, r1]) rfl ⟨rfl, ?_⟩
  (repeat first | exact Hb.out | (refine Below.setCell ?_ (by have := Hb.out.size; first | (dsimp only; omega) | (show _ ≤ _; omega) | (simp <;> omega)) _) | (refine Below.alloc ?_ (by have := Hb.out.size; simp <;> omega) _) | refine Below.drew ?_)

set_option maxHeartbeats 1000000 in
theorem scmp_any (l m : List UInt8) (w : World) (hl : l.length ≤ 68719476736) (hm : m.length ≤ 68719476736) :
    Calls Tryz.prog 96 #[.string (bs l), .string (bs m)] w fun e w' => e = .returned (.int .i64 (cmpI (nv l) (nv m))) ∧ Below w.heap.size w w' := by
  go_enter Tryz.func96, Tryz.ntmps96
  have Hb : Hid (Below w.heap.size w w) := Below.refl _ _
  go_wp2_with fail
  refine (natCmp_any l m _ hl hm).mono ?_
  rintro e w1 ⟨rfl, hbn⟩
  replace Hb := Lib.hid (bnext Hb.out hbn); clear hbn
  go_wp2
  go_ret
  exact ⟨rfl, Hb.out⟩

set_option maxHeartbeats 1000000 in
theorem plus_ge (l m : List UInt8) (s : Bool) (w : World) (hl : l.length ≤ 68719476736) (hm : m.length ≤ 68719476736) (h : nv m ≤ nv l) :
    Calls Tryz.prog 71 #[.agg #[.string (bs l), .bool s], .agg #[.string (bs m), .bool (!s)]] w fun e w' => e = .returned (.agg #[.string (bs (nt (nv l - nv m))), .bool s]) ∧ Below w.heap.size w w' := by
  have hc0 : 0 ≤ cmpI (nv l) (nv m) := by unfold cmpI; rw [if_neg (by omega)]; split <;> omega
  have hss : (s == !s) = false := by cases s <;> rfl
  have Hh := Lib.hid h; clear h
  go_enter Tryz.func71, Tryz.ntmps71
  have Hb : Hid (Below w.heap.size w w) := Below.refl _ _
  go_wp2_with fail
  first | refine wp_world (fun W => Blk W (w.heap.size) 126 [.string (bs l), .bool s] ∧ Blk W (w.heap.size + 1) 126 [.string (bs m), .bool (!s)] ∧ Blk W (w.heap.size + 1 + 1) 126 [.string (bs []), .bool false] ∧ Below w.heap.size w W) ?hR ?_ | refine calls_world (fun W => Blk W (w.heap.size) 126 [.string (bs l), .bool s] ∧ Blk W (w.heap.size + 1) 126 [.string (bs m), .bool (!s)] ∧ Blk W (w.heap.size + 1 + 1) 126 [.string (bs []), .bool false] ∧ Below w.heap.size w W) ?hR ?_
  case hR => exact ⟨(((Blk.newAt w _ _ (b := w.heap.size) rfl).alloc _).alloc _), ((Blk.newAt (w.alloc _) _ _ (b := w.heap.size + 1) (by simp)).alloc _), (Blk.newAt ((w.alloc _).alloc _) _ _ (b := w.heap.size + 1 + 1) (by simp)), ((((Below.refl _ _).alloc (Nat.le_refl _) _).alloc (by simp <;> omega) _).alloc (by simp <;> omega) _)⟩
  rintro W ⟨qx, qy, qr, hbn⟩
  have Hx := Lib.hid qx; clear qx
  have Hy := Lib.hid qy; clear qy
  have Hr := Lib.hid qr; clear qr
  have x0 : W.cell? ⟨w.heap.size, 0, none⟩ = some (.string (bs l)) := Hx.out.cell 0
  have x1 : W.cell? ⟨w.heap.size, 1, none⟩ = some (.bool s) := Hx.out.cell 1
  have y0 : W.cell? ⟨w.heap.size + 1, 0, none⟩ = some (.string (bs m)) := Hy.out.cell 0
  have y1 : W.cell? ⟨w.heap.size + 1, 1, none⟩ = some (.bool (!s)) := Hy.out.cell 1
  have r0 : W.cell? ⟨w.heap.size + 1 + 1, 0, none⟩ = some (.string (bs [])) := Hr.out.cell 0
  have fr0 : W.frozen? ⟨w.heap.size + 1 + 1, 0, none⟩ = false := Hr.out.free 0
  have r1 : W.cell? ⟨w.heap.size + 1 + 1, 1, none⟩ = some (.bool false) := Hr.out.cell 1
  have fr1 : W.frozen? ⟨w.heap.size + 1 + 1, 1, none⟩ = false := Hr.out.free 1
  replace Hb := Lib.hid (bnext Hb.out hbn); clear hbn
  go_wp2_with fail
  refine (scmp_any l m _ hl hm).mono ?_
  rintro e w1 ⟨rfl, hbn⟩
  clear x0 x1
  clear y0 y1
  clear r0 fr0 r1 fr1
  replace Hx := Lib.hid (Hx.out.below hbn)
  replace Hy := Lib.hid (Hy.out.below hbn)
  replace Hr := Lib.hid (Hr.out.below hbn)
  have x0 : w1.cell? ⟨w.heap.size, 0, none⟩ = some (.string (bs l)) := Hx.out.cell 0
  have x1 : w1.cell? ⟨w.heap.size, 1, none⟩ = some (.bool s) := Hx.out.cell 1
  have y0 : w1.cell? ⟨w.heap.size + 1, 0, none⟩ = some (.string (bs m)) := Hy.out.cell 0
  have y1 : w1.cell? ⟨w.heap.size + 1, 1, none⟩ = some (.bool (!s)) := Hy.out.cell 1
  have r0 : w1.cell? ⟨w.heap.size + 1 + 1, 0, none⟩ = some (.string (bs [])) := Hr.out.cell 0
  have fr0 : w1.frozen? ⟨w.heap.size + 1 + 1, 0, none⟩ = false := Hr.out.free 0
  have r1 : w1.cell? ⟨w.heap.size + 1 + 1, 1, none⟩ = some (.bool false) := Hr.out.cell 1
  have fr1 : w1.frozen? ⟨w.heap.size + 1 + 1, 1, none⟩ = false := Hr.out.free 1
  replace Hb := Lib.hid (bnext Hb.out hbn); clear hbn
  go_wp2_with fail
  refine (natSub_any l m _ hl hm Hh.out).mono ?_
  rintro e w2 ⟨rfl, hbn⟩
  clear x0 x1
  clear y0 y1
  clear r0 fr0 r1 fr1
  replace Hx := Lib.hid (Hx.out.below hbn)
  replace Hy := Lib.hid (Hy.out.below hbn)
  replace Hr := Lib.hid (Hr.out.below hbn)
  have x0 : w2.cell? ⟨w.heap.size, 0, none⟩ = some (.string (bs l)) := Hx.out.cell 0
  have x1 : w2.cell? ⟨w.heap.size, 1, none⟩ = some (.bool s) := Hx.out.cell 1
  have y0 : w2.cell? ⟨w.heap.size + 1, 0, none⟩ = some (.string (bs m)) := Hy.out.cell 0
  have y1 : w2.cell? ⟨w.heap.size + 1, 1, none⟩ = some (.bool (!s)) := Hy.out.cell 1
  have r0 : w2.cell? ⟨w.heap.size + 1 + 1, 0, none⟩ = some (.string (bs [])) := Hr.out.cell 0
  have fr0 : w2.frozen? ⟨w.heap.size + 1 + 1, 0, none⟩ = false := Hr.out.free 0
  have r1 : w2.cell? ⟨w.heap.size + 1 + 1, 1, none⟩ = some (.bool false) := Hr.out.cell 1
  have fr1 : w2.frozen? ⟨w.heap.size + 1 + 1, 1, none⟩ = false := Hr.out.free 1
  replace Hb := Lib.hid (bnext Hb.out hbn); clear hbn
  go_wp2
  refine bodyPost_ret (v := .agg #[.string (bs (nt (nv l - nv m))), .bool s]) (by simp [results, Tryz.results71, go_sem, r0, r1]) rfl ⟨rfl, ?_⟩
  (repeat first | exact Hb.out | (refine Below.setCell ?_ (by have := Hb.out.size; first | (dsimp only; omega) | (show _ ≤ _; omega) | (simp <;> omega)) _) | (refine Below.alloc ?_ (by have := Hb.out.size; simp <;> omega) _) | refine Below.drew ?_)

set_option maxHeartbeats 1000000 in
theorem plus_less (l m : List UInt8) (s : Bool) (w : World) (hl : l.length ≤ 68719476736) (hm : m.length ≤ 68719476736) (h : nv l < nv m) :
    Calls Tryz.prog 71 #[.agg #[.string (bs l), .bool s], .agg #[.string (bs m), .bool (!s)]] w fun e w' => e = .returned (.agg #[.string (bs (nt (nv m - nv l))), .bool (!s)]) ∧ Below w.heap.size w w' := by
  have hc0 : cmpI (nv l) (nv m) < 0 := by unfold cmpI; rw [if_pos h]; omega
  have hss : (s == !s) = false := by cases s <;> rfl
  have Hh := Lib.hid (Nat.le_of_lt h); clear h
  go_enter Tryz.func71, Tryz.ntmps71
  have Hb : Hid (Below w.heap.size w w) := Below.refl _ _
  go_wp2_with fail
  first | refine wp_world (fun W => Blk W (w.heap.size) 126 [.string (bs l), .bool s] ∧ Blk W (w.heap.size + 1) 126 [.string (bs m), .bool (!s)] ∧ Blk W (w.heap.size + 1 + 1) 126 [.string (bs []), .bool false] ∧ Below w.heap.size w W) ?hR ?_ | refine calls_world (fun W => Blk W (w.heap.size) 126 [.string (bs l), .bool s] ∧ Blk W (w.heap.size + 1) 126 [.string (bs m), .bool (!s)] ∧ Blk W (w.heap.size + 1 + 1) 126 [.string (bs []), .bool false] ∧ Below w.heap.size w W) ?hR ?_
  case hR => exact ⟨(((Blk.newAt w _ _ (b := w.heap.size) rfl).alloc _).alloc _), ((Blk.newAt (w.alloc _) _ _ (b := w.heap.size + 1) (by simp)).alloc _), (Blk.newAt ((w.alloc _).alloc _) _ _ (b := w.heap.size + 1 + 1) (by simp)), ((((Below.refl _ _).alloc (Nat.le_refl _) _).alloc (by simp <;> omega) _).alloc (by simp <;> omega) _)⟩
  rintro W ⟨qx, qy, qr, hbn⟩
  have Hx := Lib.hid qx; clear qx
  have Hy := Lib.hid qy; clear qy
  have Hr := Lib.hid qr; clear qr
  have x0 : W.cell? ⟨w.heap.size, 0, none⟩ = some (.string (bs l)) := Hx.out.cell 0
  have fx0 : W.frozen? ⟨w.heap.size, 0, none⟩ = false := Hx.out.free 0
  have x1 : W.cell? ⟨w.heap.size, 1, none⟩ = some (.bool s) := Hx.out.cell 1
  have fx1 : W.frozen? ⟨w.heap.size, 1, none⟩ = false := Hx.out.free 1
  have y0 : W.cell? ⟨w.heap.size + 1, 0, none⟩ = some (.string (bs m)) := Hy.out.cell 0
  have fy0 : W.frozen? ⟨w.heap.size + 1, 0, none⟩ = false := Hy.out.free 0
  have y1 : W.cell? ⟨w.heap.size + 1, 1, none⟩ = some (.bool (!s)) := Hy.out.cell 1
  have fy1 : W.frozen? ⟨w.heap.size + 1, 1, none⟩ = false := Hy.out.free 1
  have r0 : W.cell? ⟨w.heap.size + 1 + 1, 0, none⟩ = some (.string (bs [])) := Hr.out.cell 0
  have fr0 : W.frozen? ⟨w.heap.size + 1 + 1, 0, none⟩ = false := Hr.out.free 0
  have r1 : W.cell? ⟨w.heap.size + 1 + 1, 1, none⟩ = some (.bool false) := Hr.out.cell 1
  have fr1 : W.frozen? ⟨w.heap.size + 1 + 1, 1, none⟩ = false := Hr.out.free 1
  replace Hb := Lib.hid (bnext Hb.out hbn); clear hbn
  go_wp2_with fail
  refine (scmp_any l m _ hl hm).mono ?_
  rintro e w1 ⟨rfl, hbn⟩
  clear x0 fx0 x1 fx1
  clear y0 fy0 y1 fy1
  clear r0 fr0 r1 fr1
  replace Hx := Lib.hid (Hx.out.below hbn)
  replace Hy := Lib.hid (Hy.out.below hbn)
  replace Hr := Lib.hid (Hr.out.below hbn)
  have x0 : w1.cell? ⟨w.heap.size, 0, none⟩ = some (.string (bs l)) := Hx.out.cell 0
  have fx0 : w1.frozen? ⟨w.heap.size, 0, none⟩ = false := Hx.out.free 0
  have x1 : w1.cell? ⟨w.heap.size, 1, none⟩ = some (.bool s) := Hx.out.cell 1
  have fx1 : w1.frozen? ⟨w.heap.size, 1, none⟩ = false := Hx.out.free 1
  have y0 : w1.cell? ⟨w.heap.size + 1, 0, none⟩ = some (.string (bs m)) := Hy.out.cell 0
  have fy0 : w1.frozen? ⟨w.heap.size + 1, 0, none⟩ = false := Hy.out.free 0
  have y1 : w1.cell? ⟨w.heap.size + 1, 1, none⟩ = some (.bool (!s)) := Hy.out.cell 1
  have fy1 : w1.frozen? ⟨w.heap.size + 1, 1, none⟩ = false := Hy.out.free 1
  have r0 : w1.cell? ⟨w.heap.size + 1 + 1, 0, none⟩ = some (.string (bs [])) := Hr.out.cell 0
  have fr0 : w1.frozen? ⟨w.heap.size + 1 + 1, 0, none⟩ = false := Hr.out.free 0
  have r1 : w1.cell? ⟨w.heap.size + 1 + 1, 1, none⟩ = some (.bool false) := Hr.out.cell 1
  have fr1 : w1.frozen? ⟨w.heap.size + 1 + 1, 1, none⟩ = false := Hr.out.free 1
  replace Hb := Lib.hid (bnext Hb.out hbn); clear hbn
  go_wp2_with fail
  clear x0 fx0 x1 fx1
  clear y0 fy0 y1 fy1
  clear r0 fr0 r1 fr1
  first | refine wp_world (fun w2 => Blk w2 (w.heap.size) 126 [.string (bs m), .bool (!s)] ∧ Blk w2 (w.heap.size + 1) 126 [.string (bs l), .bool s] ∧ Blk w2 (w.heap.size + 1 + 1) 126 [.string (bs []), .bool false] ∧ Below w.heap.size w w2) ⟨((((Hx.out.set 0 _).set 1 _).set_other ⟨w.heap.size + 1, 0, none⟩ (by first | (dsimp only; omega) | (show _ ≠ _; omega) | (simp <;> omega)) _).set_other ⟨w.heap.size + 1, 1, none⟩ (by first | (dsimp only; omega) | (show _ ≠ _; omega) | (simp <;> omega)) _), ((((Hy.out.set_other ⟨w.heap.size, 0, none⟩ (by first | (dsimp only; omega) | (show _ ≠ _; omega) | (simp <;> omega)) _).set_other ⟨w.heap.size, 1, none⟩ (by first | (dsimp only; omega) | (show _ ≠ _; omega) | (simp <;> omega)) _).set 0 _).set 1 _), ((((Hr.out.set_other ⟨w.heap.size, 0, none⟩ (by first | (dsimp only; omega) | (show _ ≠ _; omega) | (simp <;> omega)) _).set_other ⟨w.heap.size, 1, none⟩ (by first | (dsimp only; omega) | (show _ ≠ _; omega) | (simp <;> omega)) _).set_other ⟨w.heap.size + 1, 0, none⟩ (by first | (dsimp only; omega) | (show _ ≠ _; omega) | (simp <;> omega)) _).set_other ⟨w.heap.size + 1, 1, none⟩ (by first | (dsimp only; omega) | (show _ ≠ _; omega) | (simp <;> omega)) _), ((((Hb.out.setCell (p := ⟨w.heap.size, 0, none⟩) (by have := Hb.out.size; first | (dsimp only; omega) | (show _ ≤ _; omega) | (simp <;> omega)) _).setCell (p := ⟨w.heap.size, 1, none⟩) (by have := Hb.out.size; first | (dsimp only; omega) | (show _ ≤ _; omega) | (simp <;> omega)) _).setCell (p := ⟨w.heap.size + 1, 0, none⟩) (by have := Hb.out.size; first | (dsimp only; omega) | (show _ ≤ _; omega) | (simp <;> omega)) _).setCell (p := ⟨w.heap.size + 1, 1, none⟩) (by have := Hb.out.size; first | (dsimp only; omega) | (show _ ≤ _; omega) | (simp <;> omega)) _)⟩ ?_ | refine calls_world (fun w2 => Blk w2 (w.heap.size) 126 [.string (bs m), .bool (!s)] ∧ Blk w2 (w.heap.size + 1) 126 [.string (bs l), .bool s] ∧ Blk w2 (w.heap.size + 1 + 1) 126 [.string (bs []), .bool false] ∧ Below w.heap.size w w2) ⟨((((Hx.out.set 0 _).set 1 _).set_other ⟨w.heap.size + 1, 0, none⟩ (by first | (dsimp only; omega) | (show _ ≠ _; omega) | (simp <;> omega)) _).set_other ⟨w.heap.size + 1, 1, none⟩ (by first | (dsimp only; omega) | (show _ ≠ _; omega) | (simp <;> omega)) _), ((((Hy.out.set_other ⟨w.heap.size, 0, none⟩ (by first | (dsimp only; omega) | (show _ ≠ _; omega) | (simp <;> omega)) _).set_other ⟨w.heap.size, 1, none⟩ (by first | (dsimp only; omega) | (show _ ≠ _; omega) | (simp <;> omega)) _).set 0 _).set 1 _), ((((Hr.out.set_other ⟨w.heap.size, 0, none⟩ (by first | (dsimp only; omega) | (show _ ≠ _; omega) | (simp <;> omega)) _).set_other ⟨w.heap.size, 1, none⟩ (by first | (dsimp only; omega) | (show _ ≠ _; omega) | (simp <;> omega)) _).set_other ⟨w.heap.size + 1, 0, none⟩ (by first | (dsimp only; omega) | (show _ ≠ _; omega) | (simp <;> omega)) _).set_other ⟨w.heap.size + 1, 1, none⟩ (by first | (dsimp only; omega) | (show _ ≠ _; omega) | (simp <;> omega)) _), ((((Hb.out.setCell (p := ⟨w.heap.size, 0, none⟩) (by have := Hb.out.size; first | (dsimp only; omega) | (show _ ≤ _; omega) | (simp <;> omega)) _).setCell (p := ⟨w.heap.size, 1, none⟩) (by have := Hb.out.size; first | (dsimp only; omega) | (show _ ≤ _; omega) | (simp <;> omega)) _).setCell (p := ⟨w.heap.size + 1, 0, none⟩) (by have := Hb.out.size; first | (dsimp only; omega) | (show _ ≤ _; omega) | (simp <;> omega)) _).setCell (p := ⟨w.heap.size + 1, 1, none⟩) (by have := Hb.out.size; first | (dsimp only; omega) | (show _ ≤ _; omega) | (simp <;> omega)) _)⟩ ?_
  rintro w2 ⟨qx, qy, qr, hbn⟩
  replace Hx := Lib.hid qx; clear qx
  replace Hy := Lib.hid qy; clear qy
  replace Hr := Lib.hid qr; clear qr
  have x0 : w2.cell? ⟨w.heap.size, 0, none⟩ = some (.string (bs m)) := Hx.out.cell 0
  have fx0 : w2.frozen? ⟨w.heap.size, 0, none⟩ = false := Hx.out.free 0
  have x1 : w2.cell? ⟨w.heap.size, 1, none⟩ = some (.bool (!s)) := Hx.out.cell 1
  have fx1 : w2.frozen? ⟨w.heap.size, 1, none⟩ = false := Hx.out.free 1
  have y0 : w2.cell? ⟨w.heap.size + 1, 0, none⟩ = some (.string (bs l)) := Hy.out.cell 0
  have fy0 : w2.frozen? ⟨w.heap.size + 1, 0, none⟩ = false := Hy.out.free 0
  have y1 : w2.cell? ⟨w.heap.size + 1, 1, none⟩ = some (.bool s) := Hy.out.cell 1
  have fy1 : w2.frozen? ⟨w.heap.size + 1, 1, none⟩ = false := Hy.out.free 1
  have r0 : w2.cell? ⟨w.heap.size + 1 + 1, 0, none⟩ = some (.string (bs [])) := Hr.out.cell 0
  have fr0 : w2.frozen? ⟨w.heap.size + 1 + 1, 0, none⟩ = false := Hr.out.free 0
  have r1 : w2.cell? ⟨w.heap.size + 1 + 1, 1, none⟩ = some (.bool false) := Hr.out.cell 1
  have fr1 : w2.frozen? ⟨w.heap.size + 1 + 1, 1, none⟩ = false := Hr.out.free 1
  replace Hb := Lib.hid hbn; clear hbn
  go_wp2_with fail
  refine (natSub_any m l _ hm hl Hh.out).mono ?_
  rintro e w3 ⟨rfl, hbn⟩
  clear x0 fx0 x1 fx1
  clear y0 fy0 y1 fy1
  clear r0 fr0 r1 fr1
  replace Hx := Lib.hid (Hx.out.below hbn)
  replace Hy := Lib.hid (Hy.out.below hbn)
  replace Hr := Lib.hid (Hr.out.below hbn)
  have x0 : w3.cell? ⟨w.heap.size, 0, none⟩ = some (.string (bs m)) := Hx.out.cell 0
  have fx0 : w3.frozen? ⟨w.heap.size, 0, none⟩ = false := Hx.out.free 0
  have x1 : w3.cell? ⟨w.heap.size, 1, none⟩ = some (.bool (!s)) := Hx.out.cell 1
  have fx1 : w3.frozen? ⟨w.heap.size, 1, none⟩ = false := Hx.out.free 1
  have y0 : w3.cell? ⟨w.heap.size + 1, 0, none⟩ = some (.string (bs l)) := Hy.out.cell 0
  have fy0 : w3.frozen? ⟨w.heap.size + 1, 0, none⟩ = false := Hy.out.free 0
  have y1 : w3.cell? ⟨w.heap.size + 1, 1, none⟩ = some (.bool s) := Hy.out.cell 1
  have fy1 : w3.frozen? ⟨w.heap.size + 1, 1, none⟩ = false := Hy.out.free 1
  have r0 : w3.cell? ⟨w.heap.size + 1 + 1, 0, none⟩ = some (.string (bs [])) := Hr.out.cell 0
  have fr0 : w3.frozen? ⟨w.heap.size + 1 + 1, 0, none⟩ = false := Hr.out.free 0
  have r1 : w3.cell? ⟨w.heap.size + 1 + 1, 1, none⟩ = some (.bool false) := Hr.out.cell 1
  have fr1 : w3.frozen? ⟨w.heap.size + 1 + 1, 1, none⟩ = false := Hr.out.free 1
  replace Hb := Lib.hid (bnext Hb.out hbn); clear hbn
  go_wp2
  refine bodyPost_ret (v := .agg #[.string (bs (nt (nv m - nv l))), .bool (!s)]) (by simp [results, Tryz.results71, go_sem, r0, r1]) rfl ⟨rfl, ?_⟩
  (repeat first | exact Hb.out | (refine Below.setCell ?_ (by have := Hb.out.size; first | (dsimp only; omega) | (show _ ≤ _; omega) | (simp <;> omega)) _) | (refine Below.alloc ?_ (by have := Hb.out.size; simp <;> omega) _) | refine Below.drew ?_)

/-- The sign of a sum, as it comes. -/
def psign (s : Bool) (l : List UInt8) (t : Bool) (m : List UInt8) : Bool := if s == t then s else if nv l < nv m then t else s
theorem psign_iv (s : Bool) (l : List UInt8) (t : Bool) (m : List UInt8) : iv (psign s l t m) (nt (iv s l + iv t m).natAbs) = iv s l + iv t m := by
  unfold psign iv
  rw [nv_nt]
  cases s <;> cases t <;> simp <;> (try split) <;> omega

theorem plus_any (l m : List UInt8) (s t : Bool) (w : World) (hl : l.length ≤ 68719476736) (hm : m.length ≤ 68719476736) :
    Calls Tryz.prog 71 #[.agg #[.string (bs l), .bool s], .agg #[.string (bs m), .bool t]] w fun e w' => e = .returned (.agg #[.string (bs (nt (iv s l + iv t m).natAbs)), .bool (psign s l t m)]) ∧ Below w.heap.size w w' := by
  by_cases hst : s = t
  · subst hst
    have e : (iv s l + iv s m).natAbs = nv l + nv m := by unfold iv; split <;> omega
    rw [e, show psign s l s m = s by simp [psign]]
    exact plus_same l m s w hl hm
  · obtain rfl : t = !s := by cases s <;> cases t <;> simp_all
    by_cases h : nv l < nv m
    · have e : (iv s l + iv (!s) m).natAbs = nv m - nv l := by unfold iv; cases s <;> simp <;> omega
      rw [e, show psign s l (!s) m = !s by cases s <;> simp [psign, h]]
      exact plus_less l m s w hl hm h
    · have e : (iv s l + iv (!s) m).natAbs = nv l - nv m := by unfold iv; cases s <;> simp <;> omega
      rw [e, show psign s l (!s) m = s by cases s <;> simp [psign, h]]
      exact plus_ge l m s w hl hm (by omega)

set_option maxHeartbeats 1000000 in
theorem times_raw (l m : List UInt8) (s t : Bool) (w : World) (hl : l.length ≤ 68719476736) (hm : m.length ≤ 68719476736) :
    Calls Tryz.prog 86 #[.agg #[.string (bs l), .bool s], .agg #[.string (bs m), .bool t]] w fun e w' => e = .returned (.agg #[.string (bs (nt (nv l * nv m))), .bool (!(s == t))]) ∧ Below w.heap.size w w' := by
  go_enter Tryz.func86, Tryz.ntmps86
  have Hb : Hid (Below w.heap.size w w) := Below.refl _ _
  go_wp2_with fail
  first | refine wp_world (fun W => Blk W (w.heap.size) 126 [.string (bs l), .bool s] ∧ Blk W (w.heap.size + 1) 126 [.string (bs m), .bool t] ∧ Blk W (w.heap.size + 1 + 1) 126 [.string (bs []), .bool false] ∧ Below w.heap.size w W) ?hR ?_ | refine calls_world (fun W => Blk W (w.heap.size) 126 [.string (bs l), .bool s] ∧ Blk W (w.heap.size + 1) 126 [.string (bs m), .bool t] ∧ Blk W (w.heap.size + 1 + 1) 126 [.string (bs []), .bool false] ∧ Below w.heap.size w W) ?hR ?_
  case hR => exact ⟨(((Blk.newAt w _ _ (b := w.heap.size) rfl).alloc _).alloc _), ((Blk.newAt (w.alloc _) _ _ (b := w.heap.size + 1) (by simp)).alloc _), (Blk.newAt ((w.alloc _).alloc _) _ _ (b := w.heap.size + 1 + 1) (by simp)), ((((Below.refl _ _).alloc (Nat.le_refl _) _).alloc (by simp <;> omega) _).alloc (by simp <;> omega) _)⟩
  rintro W ⟨qx, qy, qr, hbn⟩
  have Hx := Lib.hid qx; clear qx
  have Hy := Lib.hid qy; clear qy
  have Hr := Lib.hid qr; clear qr
  have x0 : W.cell? ⟨w.heap.size, 0, none⟩ = some (.string (bs l)) := Hx.out.cell 0
  have x1 : W.cell? ⟨w.heap.size, 1, none⟩ = some (.bool s) := Hx.out.cell 1
  have y0 : W.cell? ⟨w.heap.size + 1, 0, none⟩ = some (.string (bs m)) := Hy.out.cell 0
  have y1 : W.cell? ⟨w.heap.size + 1, 1, none⟩ = some (.bool t) := Hy.out.cell 1
  have r0 : W.cell? ⟨w.heap.size + 1 + 1, 0, none⟩ = some (.string (bs [])) := Hr.out.cell 0
  have fr0 : W.frozen? ⟨w.heap.size + 1 + 1, 0, none⟩ = false := Hr.out.free 0
  have r1 : W.cell? ⟨w.heap.size + 1 + 1, 1, none⟩ = some (.bool false) := Hr.out.cell 1
  have fr1 : W.frozen? ⟨w.heap.size + 1 + 1, 1, none⟩ = false := Hr.out.free 1
  replace Hb := Lib.hid (bnext Hb.out hbn); clear hbn
  have nex : w.heap.size ≠ w.heap.size + 1 + 1 := by omega
  have ney : w.heap.size + 1 ≠ w.heap.size + 1 + 1 := by omega
  go_region_held3 (fun w' => w'.cell? ⟨w.heap.size, 0, none⟩ = some (.string (bs l)) ∧ w'.cell? ⟨w.heap.size, 1, none⟩ = some (.bool s) ∧ w'.cell? ⟨w.heap.size + 1, 0, none⟩ = some (.string (bs m)) ∧ w'.cell? ⟨w.heap.size + 1, 1, none⟩ = some (.bool t)) (((try dsimp only); go_split_ands; (repeat' apply And.intro) <;> (first | exact True.intro | with_reducible assumption | ((with_reducible refine cell_set_ne (by first | (dsimp only; omega) | (show _ ≠ _; omega) | (simp <;> omega)) ?_); (repeat (with_reducible refine cell_set_ne (by first | (dsimp only; omega) | (show _ ≠ _; omega) | (simp <;> omega)) ?_)); with_reducible assumption) | exact cell_later (by with_reducible assumption) (by with_reducible assumption) | exact cell_new (by with_reducible assumption) | go_keep))) (first | (go_at_call 109; (with_reducible refine (natMul_any l m _ hl hm).mono ?_); rintro e w1 ⟨rfl, hq⟩; have hw1 : Below W.heap.size W w1 := (by first | exact bundrew hq | exact hq | exact ballocd hq | exact balloc hq | exact ballocx hq); clear hq; have Hx_w1 := Lib.hid (Hx.out.below hw1); have x0_w1 : w1.cell? ⟨w.heap.size, 0, none⟩ = some (.string (bs l)) := Hx_w1.out.cell 0; have x1_w1 : w1.cell? ⟨w.heap.size, 1, none⟩ = some (.bool s) := Hx_w1.out.cell 1; have Hy_w1 := Lib.hid (Hy.out.below hw1); have y0_w1 : w1.cell? ⟨w.heap.size + 1, 0, none⟩ = some (.string (bs m)) := Hy_w1.out.cell 0; have y1_w1 : w1.cell? ⟨w.heap.size + 1, 1, none⟩ = some (.bool t) := Hy_w1.out.cell 1; have Hr_w1 := Lib.hid (Hr.out.below hw1); have r0_w1 : w1.cell? ⟨w.heap.size + 1 + 1, 0, none⟩ = some (.string (bs [])) := Hr_w1.out.cell 0; have fr0_w1 : w1.frozen? ⟨w.heap.size + 1 + 1, 0, none⟩ = false := Hr_w1.out.free 0; have r1_w1 : w1.cell? ⟨w.heap.size + 1 + 1, 1, none⟩ = some (.bool false) := Hr_w1.out.cell 1; have fr1_w1 : w1.frozen? ⟨w.heap.size + 1 + 1, 1, none⟩ = false := Hr_w1.out.free 1))
  replace Hb := Lib.hid (bnext Hb.out hw1); clear hw1
  clear x0 x1
  clear y0 y1
  clear r0 fr0 r1 fr1
  replace Hx := Hx_w1
  clear x0_w1
  clear x1_w1
  replace Hy := Hy_w1
  clear y0_w1
  clear y1_w1
  replace Hr := Hr_w1
  clear r0_w1 fr0_w1
  clear r1_w1 fr1_w1
  have x0 : w1.cell? ⟨w.heap.size, 0, none⟩ = some (.string (bs l)) := Hx.out.cell 0
  have x1 : w1.cell? ⟨w.heap.size, 1, none⟩ = some (.bool s) := Hx.out.cell 1
  have y0 : w1.cell? ⟨w.heap.size + 1, 0, none⟩ = some (.string (bs m)) := Hy.out.cell 0
  have y1 : w1.cell? ⟨w.heap.size + 1, 1, none⟩ = some (.bool t) := Hy.out.cell 1
  have r0 : w1.cell? ⟨w.heap.size + 1 + 1, 0, none⟩ = some (.string (bs [])) := Hr.out.cell 0
  have fr0 : w1.frozen? ⟨w.heap.size + 1 + 1, 0, none⟩ = false := Hr.out.free 0
  have r1 : w1.cell? ⟨w.heap.size + 1 + 1, 1, none⟩ = some (.bool false) := Hr.out.cell 1
  have fr1 : w1.frozen? ⟨w.heap.size + 1 + 1, 1, none⟩ = false := Hr.out.free 1
  go_wp2
  refine bodyPost_ret (v := .agg #[.string (bs (nt (nv l * nv m))), .bool (!(s == t))]) (by simp [results, Tryz.results86, go_sem, r0, r1]) rfl ⟨rfl, ?_⟩
  (repeat first | exact Hb.out | (refine Below.setCell ?_ (by have := Hb.out.size; first | (dsimp only; omega) | (show _ ≤ _; omega) | (simp <;> omega)) _) | (refine Below.alloc ?_ (by have := Hb.out.size; simp <;> omega) _) | refine Below.drew ?_)

theorem iv_mul (s : Bool) (l : List UInt8) (t : Bool) (m : List UInt8) : iv (!(s == t)) (nt (nv l * nv m)) = iv s l * iv t m := by
  unfold iv
  rw [nv_nt]
  cases s <;> cases t <;> simp [Int.natCast_mul, Int.neg_mul, Int.mul_neg]

end Go.Proofs.YtidjljldhdckiaaGreatDoor

/- Package whole, on: what the calls answer. -/
namespace Go.Proofs.YtidjljldhdckiaaGreatDoor
open Go.RowKit
attribute [local go_sem ↓] Go.wp_at_zero Go.wp_at_succ

set_option maxHeartbeats 1000000 in
theorem wOf_any (n : Int) (w : World) (h0 : -9223372036854775808 ≤ n) (h1 : n ≤ 9223372036854775807) :
    Calls Tryz.prog 65 #[.int .i64 n] w fun e w' => e = .returned (intV n) ∧ Below w.heap.size w w' := by
  have hb : n.natAbs < WW := by rw [WW_def]; omega
  have hlen : (nt n.natAbs).length ≤ 8 := nt_length_le (by rw [WW_def] at hb; omega)
  have Hbd := Lib.hid hb; clear hb
  by_cases hn : n < 0
  · have hconv : IntKind.u64.wrap (-(IntKind.u64.wrap n)) = (n.natAbs : Int) := by
      simp only [IntKind.wrap_u64]; omega
    have Hiv : Hid (iv true (nt n.natAbs) = n) := by show iv _ _ = _; unfold iv; rw [nv_nt]; simp; omega
    go_enter Tryz.func65, Tryz.ntmps65
    have Hb : Hid (Below w.heap.size w w) := Below.refl _ _
    go_wp2_with fail
    first | refine wp_world (fun W => Blk W (w.heap.size) 34 [.bool false, .string (bs [])] ∧ Below w.heap.size w W) ?hR ?_ | refine calls_world (fun W => Blk W (w.heap.size) 34 [.bool false, .string (bs [])] ∧ Below w.heap.size w W) ?hR ?_
    case hR => exact ⟨(Blk.newAt w _ _ (b := w.heap.size) rfl), ((Below.refl _ _).alloc (Nat.le_refl _) _)⟩
    rintro W ⟨qr, hbn⟩
    have Hr := Lib.hid qr; clear qr
    have r0 : W.cell? ⟨w.heap.size, 0, none⟩ = some (.bool false) := Hr.out.cell 0
    have fr0 : W.frozen? ⟨w.heap.size, 0, none⟩ = false := Hr.out.free 0
    have r1 : W.cell? ⟨w.heap.size, 1, none⟩ = some (.string (bs [])) := Hr.out.cell 1
    have fr1 : W.frozen? ⟨w.heap.size, 1, none⟩ = false := Hr.out.free 1
    replace Hb := Lib.hid (bnext Hb.out hbn); clear hbn
    go_wp2_with fail
    refine (natOf_any n.natAbs Hbd.out _).mono ?_
    rintro e w1 ⟨rfl, hbn⟩
    clear r0 fr0 r1 fr1
    replace Hr := Lib.hid (Hr.out.below hbn)
    have r0 : w1.cell? ⟨w.heap.size, 0, none⟩ = some (.bool false) := Hr.out.cell 0
    have fr0 : w1.frozen? ⟨w.heap.size, 0, none⟩ = false := Hr.out.free 0
    have r1 : w1.cell? ⟨w.heap.size, 1, none⟩ = some (.string (bs [])) := Hr.out.cell 1
    have fr1 : w1.frozen? ⟨w.heap.size, 1, none⟩ = false := Hr.out.free 1
    replace Hb := Lib.hid (bnext Hb.out hbn); clear hbn
    go_wp2_with fail
    refine (made_any (nt n.natAbs) true _ (by omega)).mono ?_
    rintro e w2 ⟨rfl, hbn⟩
    clear r0 fr0 r1 fr1
    replace Hr := Lib.hid (Hr.out.below hbn)
    have r0 : w2.cell? ⟨w.heap.size, 0, none⟩ = some (.bool false) := Hr.out.cell 0
    have fr0 : w2.frozen? ⟨w.heap.size, 0, none⟩ = false := Hr.out.free 0
    have r1 : w2.cell? ⟨w.heap.size, 1, none⟩ = some (.string (bs [])) := Hr.out.cell 1
    have fr1 : w2.frozen? ⟨w.heap.size, 1, none⟩ = false := Hr.out.free 1
    replace Hb := Lib.hid (bnext Hb.out hbn); clear hbn
    rw [Hiv.out]
    go_wp2
    refine bodyPost_ret (v := intV n) (by simp [results, Tryz.results65, go_sem, r0, r1]) rfl ⟨rfl, ?_⟩
    (repeat first | exact Hb.out | (refine Below.setCell ?_ (by have := Hb.out.size; first | (dsimp only; omega) | (show _ ≤ _; omega) | (simp <;> omega)) _) | (refine Below.alloc ?_ (by have := Hb.out.size; simp <;> omega) _) | refine Below.drew ?_)
  · have hconv : IntKind.u64.wrap n = (n.natAbs : Int) := by
      simp only [IntKind.wrap_u64]; omega
    have Hiv : Hid (iv false (nt n.natAbs) = n) := by show iv _ _ = _; unfold iv; rw [nv_nt]; simp; omega
    go_enter Tryz.func65, Tryz.ntmps65
    have Hb : Hid (Below w.heap.size w w) := Below.refl _ _
    go_wp2_with fail
    first | refine wp_world (fun W => Blk W (w.heap.size) 34 [.bool false, .string (bs [])] ∧ Below w.heap.size w W) ?hR ?_ | refine calls_world (fun W => Blk W (w.heap.size) 34 [.bool false, .string (bs [])] ∧ Below w.heap.size w W) ?hR ?_
    case hR => exact ⟨(Blk.newAt w _ _ (b := w.heap.size) rfl), ((Below.refl _ _).alloc (Nat.le_refl _) _)⟩
    rintro W ⟨qr, hbn⟩
    have Hr := Lib.hid qr; clear qr
    have r0 : W.cell? ⟨w.heap.size, 0, none⟩ = some (.bool false) := Hr.out.cell 0
    have fr0 : W.frozen? ⟨w.heap.size, 0, none⟩ = false := Hr.out.free 0
    have r1 : W.cell? ⟨w.heap.size, 1, none⟩ = some (.string (bs [])) := Hr.out.cell 1
    have fr1 : W.frozen? ⟨w.heap.size, 1, none⟩ = false := Hr.out.free 1
    replace Hb := Lib.hid (bnext Hb.out hbn); clear hbn
    go_wp2_with fail
    refine (natOf_any n.natAbs Hbd.out _).mono ?_
    rintro e w1 ⟨rfl, hbn⟩
    clear r0 fr0 r1 fr1
    replace Hr := Lib.hid (Hr.out.below hbn)
    have r0 : w1.cell? ⟨w.heap.size, 0, none⟩ = some (.bool false) := Hr.out.cell 0
    have fr0 : w1.frozen? ⟨w.heap.size, 0, none⟩ = false := Hr.out.free 0
    have r1 : w1.cell? ⟨w.heap.size, 1, none⟩ = some (.string (bs [])) := Hr.out.cell 1
    have fr1 : w1.frozen? ⟨w.heap.size, 1, none⟩ = false := Hr.out.free 1
    replace Hb := Lib.hid (bnext Hb.out hbn); clear hbn
    go_wp2_with fail
    refine (made_any (nt n.natAbs) false _ (by omega)).mono ?_
    rintro e w2 ⟨rfl, hbn⟩
    clear r0 fr0 r1 fr1
    replace Hr := Lib.hid (Hr.out.below hbn)
    have r0 : w2.cell? ⟨w.heap.size, 0, none⟩ = some (.bool false) := Hr.out.cell 0
    have fr0 : w2.frozen? ⟨w.heap.size, 0, none⟩ = false := Hr.out.free 0
    have r1 : w2.cell? ⟨w.heap.size, 1, none⟩ = some (.string (bs [])) := Hr.out.cell 1
    have fr1 : w2.frozen? ⟨w.heap.size, 1, none⟩ = false := Hr.out.free 1
    replace Hb := Lib.hid (bnext Hb.out hbn); clear hbn
    rw [Hiv.out]
    go_wp2
    refine bodyPost_ret (v := intV n) (by simp [results, Tryz.results65, go_sem, r0, r1]) rfl ⟨rfl, ?_⟩
    (repeat first | exact Hb.out | (refine Below.setCell ?_ (by have := Hb.out.size; first | (dsimp only; omega) | (show _ ≤ _; omega) | (simp <;> omega)) _) | (refine Below.alloc ?_ (by have := Hb.out.size; simp <;> omega) _) | refine Below.drew ?_)

set_option maxHeartbeats 1000000 in
theorem wForm_any (s : Bool) (l : List UInt8) (w : World) (hl : l.length ≤ 1099511627776) :
    Calls Tryz.prog 88 #[.agg #[.bool s, .string (bs l)]] w fun e w' => e = .returned (intV (iv s l)) ∧ Below w.heap.size w w' := by
  go_enter Tryz.func88, Tryz.ntmps88
  have Hb : Hid (Below w.heap.size w w) := Below.refl _ _
  go_wp2_with fail
  first | refine wp_world (fun W => Blk W (w.heap.size) 34 [.bool s, .string (bs l)] ∧ Blk W (w.heap.size + 1) 34 [.bool false, .string (bs [])] ∧ Below w.heap.size w W) ?hR ?_ | refine calls_world (fun W => Blk W (w.heap.size) 34 [.bool s, .string (bs l)] ∧ Blk W (w.heap.size + 1) 34 [.bool false, .string (bs [])] ∧ Below w.heap.size w W) ?hR ?_
  case hR => exact ⟨((Blk.newAt w _ _ (b := w.heap.size) rfl).alloc _), (Blk.newAt (w.alloc _) _ _ (b := w.heap.size + 1) (by simp)), (((Below.refl _ _).alloc (Nat.le_refl _) _).alloc (by simp <;> omega) _)⟩
  rintro W ⟨qx, qr, hbn⟩
  have Hx := Lib.hid qx; clear qx
  have Hr := Lib.hid qr; clear qr
  have x0 : W.cell? ⟨w.heap.size, 0, none⟩ = some (.bool s) := Hx.out.cell 0
  have x1 : W.cell? ⟨w.heap.size, 1, none⟩ = some (.string (bs l)) := Hx.out.cell 1
  have r0 : W.cell? ⟨w.heap.size + 1, 0, none⟩ = some (.bool false) := Hr.out.cell 0
  have fr0 : W.frozen? ⟨w.heap.size + 1, 0, none⟩ = false := Hr.out.free 0
  have r1 : W.cell? ⟨w.heap.size + 1, 1, none⟩ = some (.string (bs [])) := Hr.out.cell 1
  have fr1 : W.frozen? ⟨w.heap.size + 1, 1, none⟩ = false := Hr.out.free 1
  replace Hb := Lib.hid (bnext Hb.out hbn); clear hbn
  go_wp2_with fail
  refine (wof_any l s _).mono ?_
  rintro e w1 ⟨rfl, hbn⟩
  clear x0 x1
  clear r0 fr0 r1 fr1
  replace Hx := Lib.hid (Hx.out.below hbn)
  replace Hr := Lib.hid (Hr.out.below hbn)
  have x0 : w1.cell? ⟨w.heap.size, 0, none⟩ = some (.bool s) := Hx.out.cell 0
  have x1 : w1.cell? ⟨w.heap.size, 1, none⟩ = some (.string (bs l)) := Hx.out.cell 1
  have r0 : w1.cell? ⟨w.heap.size + 1, 0, none⟩ = some (.bool false) := Hr.out.cell 0
  have fr0 : w1.frozen? ⟨w.heap.size + 1, 0, none⟩ = false := Hr.out.free 0
  have r1 : w1.cell? ⟨w.heap.size + 1, 1, none⟩ = some (.string (bs [])) := Hr.out.cell 1
  have fr1 : w1.frozen? ⟨w.heap.size + 1, 1, none⟩ = false := Hr.out.free 1
  replace Hb := Lib.hid (bnext Hb.out hbn); clear hbn
  go_wp2_with fail
  refine (made_any l s _ hl).mono ?_
  rintro e w2 ⟨rfl, hbn⟩
  clear x0 x1
  clear r0 fr0 r1 fr1
  replace Hx := Lib.hid (Hx.out.below hbn)
  replace Hr := Lib.hid (Hr.out.below hbn)
  have x0 : w2.cell? ⟨w.heap.size, 0, none⟩ = some (.bool s) := Hx.out.cell 0
  have x1 : w2.cell? ⟨w.heap.size, 1, none⟩ = some (.string (bs l)) := Hx.out.cell 1
  have r0 : w2.cell? ⟨w.heap.size + 1, 0, none⟩ = some (.bool false) := Hr.out.cell 0
  have fr0 : w2.frozen? ⟨w.heap.size + 1, 0, none⟩ = false := Hr.out.free 0
  have r1 : w2.cell? ⟨w.heap.size + 1, 1, none⟩ = some (.string (bs [])) := Hr.out.cell 1
  have fr1 : w2.frozen? ⟨w.heap.size + 1, 1, none⟩ = false := Hr.out.free 1
  replace Hb := Lib.hid (bnext Hb.out hbn); clear hbn
  go_wp2
  refine bodyPost_ret (v := intV (iv s l)) (by simp [results, Tryz.results88, go_sem, r0, r1]) rfl ⟨rfl, ?_⟩
  (repeat first | exact Hb.out | (refine Below.setCell ?_ (by have := Hb.out.size; first | (dsimp only; omega) | (show _ ≤ _; omega) | (simp <;> omega)) _) | (refine Below.alloc ?_ (by have := Hb.out.size; simp <;> omega) _) | refine Below.drew ?_)

/-- A number's sign. -/
def sgnI (n : Int) : Int := if n < 0 then -1 else if n = 0 then 0 else 1

set_option maxHeartbeats 1000000 in
theorem wSign_any (s : Bool) (l : List UInt8) (w : World) (hl : l.length ≤ 1099511627776) :
    Calls Tryz.prog 67 #[.agg #[.bool s, .string (bs l)]] w fun e w' => e = .returned (.int .i64 (sgnI (iv s l))) ∧ Below w.heap.size w w' := by
  have hne := bs_empty (nt (iv s l).natAbs)
  by_cases hneg : iv s l < 0
  · have hs : sgnB (iv s l) = true := by simp [sgnB, hneg]
    have Hres : Hid (sgnI (iv s l) = -1) := by show sgnI _ = _; simp [sgnI, hneg]
    clear hneg hne
    go_enter Tryz.func67, Tryz.ntmps67
    have Hb : Hid (Below w.heap.size w w) := Below.refl _ _
    go_wp2_with fail
    first | refine wp_world (fun W => Blk W (w.heap.size) 34 [.bool s, .string (bs l)] ∧ Below w.heap.size w W) ?hR ?_ | refine calls_world (fun W => Blk W (w.heap.size) 34 [.bool s, .string (bs l)] ∧ Below w.heap.size w W) ?hR ?_
    case hR => exact ⟨(Blk.newAt w _ _ (b := w.heap.size) rfl), ((Below.refl _ _).alloc (Nat.le_refl _) _)⟩
    rintro W ⟨qx, hbn⟩
    have Hx := Lib.hid qx; clear qx
    have x0 : W.cell? ⟨w.heap.size, 0, none⟩ = some (.bool s) := Hx.out.cell 0
    have x1 : W.cell? ⟨w.heap.size, 1, none⟩ = some (.string (bs l)) := Hx.out.cell 1
    replace Hb := Lib.hid (bnext Hb.out hbn); clear hbn
    go_wp2_with fail
    refine (wForm_any s l _ hl).mono ?_
    rintro e w1 ⟨rfl, hbn⟩
    clear x0 x1
    replace Hx := Lib.hid (Hx.out.below hbn)
    have x0 : w1.cell? ⟨w.heap.size, 0, none⟩ = some (.bool s) := Hx.out.cell 0
    have x1 : w1.cell? ⟨w.heap.size, 1, none⟩ = some (.string (bs l)) := Hx.out.cell 1
    replace Hb := Lib.hid (bnext Hb.out hbn); clear hbn
    go_wp2
    go_ret
    rw [Hres.out]
    refine ⟨rfl, ?_⟩
    exact Hb.out.alloc Hb.out.size _
  · have hs : sgnB (iv s l) = false := by simp [sgnB, hneg]
    by_cases hz : iv s l = 0
    · have Hres : Hid (sgnI (iv s l) = 0) := by show sgnI _ = _; simp [sgnI, hz]
      have hne' : (bs (nt (iv s l).natAbs)).toList.isEmpty = true := by rw [hne, hz]; rfl
      clear hneg hne hz
      go_enter Tryz.func67, Tryz.ntmps67
      have Hb : Hid (Below w.heap.size w w) := Below.refl _ _
      go_wp2_with fail
      first | refine wp_world (fun W => Blk W (w.heap.size) 34 [.bool s, .string (bs l)] ∧ Below w.heap.size w W) ?hR ?_ | refine calls_world (fun W => Blk W (w.heap.size) 34 [.bool s, .string (bs l)] ∧ Below w.heap.size w W) ?hR ?_
      case hR => exact ⟨(Blk.newAt w _ _ (b := w.heap.size) rfl), ((Below.refl _ _).alloc (Nat.le_refl _) _)⟩
      rintro W ⟨qx, hbn⟩
      have Hx := Lib.hid qx; clear qx
      have x0 : W.cell? ⟨w.heap.size, 0, none⟩ = some (.bool s) := Hx.out.cell 0
      have x1 : W.cell? ⟨w.heap.size, 1, none⟩ = some (.string (bs l)) := Hx.out.cell 1
      replace Hb := Lib.hid (bnext Hb.out hbn); clear hbn
      go_wp2_with fail
      refine (wForm_any s l _ hl).mono ?_
      rintro e w1 ⟨rfl, hbn⟩
      clear x0 x1
      replace Hx := Lib.hid (Hx.out.below hbn)
      have x0 : w1.cell? ⟨w.heap.size, 0, none⟩ = some (.bool s) := Hx.out.cell 0
      have x1 : w1.cell? ⟨w.heap.size, 1, none⟩ = some (.string (bs l)) := Hx.out.cell 1
      replace Hb := Lib.hid (bnext Hb.out hbn); clear hbn
      go_wp2
      go_ret
      rw [Hres.out]
      refine ⟨rfl, ?_⟩
      exact Hb.out.alloc Hb.out.size _
    · have Hres : Hid (sgnI (iv s l) = 1) := by show sgnI _ = _; simp [sgnI, hz, hneg]
      have hne' : (bs (nt (iv s l).natAbs)).toList.isEmpty = false := by
        rw [hne]
        cases hq : nt (iv s l).natAbs with
        | nil => rw [nt_nil_iff] at hq; omega
        | cons a b => rfl
      clear hneg hne hz
      go_enter Tryz.func67, Tryz.ntmps67
      have Hb : Hid (Below w.heap.size w w) := Below.refl _ _
      go_wp2_with fail
      first | refine wp_world (fun W => Blk W (w.heap.size) 34 [.bool s, .string (bs l)] ∧ Below w.heap.size w W) ?hR ?_ | refine calls_world (fun W => Blk W (w.heap.size) 34 [.bool s, .string (bs l)] ∧ Below w.heap.size w W) ?hR ?_
      case hR => exact ⟨(Blk.newAt w _ _ (b := w.heap.size) rfl), ((Below.refl _ _).alloc (Nat.le_refl _) _)⟩
      rintro W ⟨qx, hbn⟩
      have Hx := Lib.hid qx; clear qx
      have x0 : W.cell? ⟨w.heap.size, 0, none⟩ = some (.bool s) := Hx.out.cell 0
      have x1 : W.cell? ⟨w.heap.size, 1, none⟩ = some (.string (bs l)) := Hx.out.cell 1
      replace Hb := Lib.hid (bnext Hb.out hbn); clear hbn
      go_wp2_with fail
      refine (wForm_any s l _ hl).mono ?_
      rintro e w1 ⟨rfl, hbn⟩
      clear x0 x1
      replace Hx := Lib.hid (Hx.out.below hbn)
      have x0 : w1.cell? ⟨w.heap.size, 0, none⟩ = some (.bool s) := Hx.out.cell 0
      have x1 : w1.cell? ⟨w.heap.size, 1, none⟩ = some (.string (bs l)) := Hx.out.cell 1
      replace Hb := Lib.hid (bnext Hb.out hbn); clear hbn
      go_wp2
      go_ret
      rw [Hres.out]
      refine ⟨rfl, ?_⟩
      exact Hb.out.alloc Hb.out.size _

theorem iv_not (s : Bool) (l : List UInt8) : iv (!s) l = -(iv s l) := by unfold iv; cases s <;> simp

set_option maxHeartbeats 1000000 in
theorem wNeg_any (s : Bool) (l : List UInt8) (w : World) (hl : l.length ≤ 1099511627776) :
    Calls Tryz.prog 115 #[.agg #[.bool s, .string (bs l)]] w fun e w' => e = .returned (intV (-(iv s l))) ∧ Below w.heap.size w w' := by
  rw [← iv_not]
  go_enter Tryz.func115, Tryz.ntmps115
  have Hb : Hid (Below w.heap.size w w) := Below.refl _ _
  go_wp2_with fail
  first | refine wp_world (fun W => Blk W (w.heap.size) 34 [.bool s, .string (bs l)] ∧ Blk W (w.heap.size + 1) 34 [.bool false, .string (bs [])] ∧ Below w.heap.size w W) ?hR ?_ | refine calls_world (fun W => Blk W (w.heap.size) 34 [.bool s, .string (bs l)] ∧ Blk W (w.heap.size + 1) 34 [.bool false, .string (bs [])] ∧ Below w.heap.size w W) ?hR ?_
  case hR => exact ⟨((Blk.newAt w _ _ (b := w.heap.size) rfl).alloc _), (Blk.newAt (w.alloc _) _ _ (b := w.heap.size + 1) (by simp)), (((Below.refl _ _).alloc (Nat.le_refl _) _).alloc (by simp <;> omega) _)⟩
  rintro W ⟨qx, qr, hbn⟩
  have Hx := Lib.hid qx; clear qx
  have Hr := Lib.hid qr; clear qr
  have x0 : W.cell? ⟨w.heap.size, 0, none⟩ = some (.bool s) := Hx.out.cell 0
  have x1 : W.cell? ⟨w.heap.size, 1, none⟩ = some (.string (bs l)) := Hx.out.cell 1
  have r0 : W.cell? ⟨w.heap.size + 1, 0, none⟩ = some (.bool false) := Hr.out.cell 0
  have fr0 : W.frozen? ⟨w.heap.size + 1, 0, none⟩ = false := Hr.out.free 0
  have r1 : W.cell? ⟨w.heap.size + 1, 1, none⟩ = some (.string (bs [])) := Hr.out.cell 1
  have fr1 : W.frozen? ⟨w.heap.size + 1, 1, none⟩ = false := Hr.out.free 1
  replace Hb := Lib.hid (bnext Hb.out hbn); clear hbn
  go_wp2_with fail
  refine (made_any l (!s) _ hl).mono ?_
  rintro e w1 ⟨rfl, hbn⟩
  clear x0 x1
  clear r0 fr0 r1 fr1
  replace Hx := Lib.hid (Hx.out.below hbn)
  replace Hr := Lib.hid (Hr.out.below hbn)
  have x0 : w1.cell? ⟨w.heap.size, 0, none⟩ = some (.bool s) := Hx.out.cell 0
  have x1 : w1.cell? ⟨w.heap.size, 1, none⟩ = some (.string (bs l)) := Hx.out.cell 1
  have r0 : w1.cell? ⟨w.heap.size + 1, 0, none⟩ = some (.bool false) := Hr.out.cell 0
  have fr0 : w1.frozen? ⟨w.heap.size + 1, 0, none⟩ = false := Hr.out.free 0
  have r1 : w1.cell? ⟨w.heap.size + 1, 1, none⟩ = some (.string (bs [])) := Hr.out.cell 1
  have fr1 : w1.frozen? ⟨w.heap.size + 1, 1, none⟩ = false := Hr.out.free 1
  replace Hb := Lib.hid (bnext Hb.out hbn); clear hbn
  go_wp2
  refine bodyPost_ret (v := intV (iv (!s) l)) (by simp [results, Tryz.results115, go_sem, r0, r1]) rfl ⟨rfl, ?_⟩
  (repeat first | exact Hb.out | (refine Below.setCell ?_ (by have := Hb.out.size; first | (dsimp only; omega) | (show _ ≤ _; omega) | (simp <;> omega)) _) | (refine Below.alloc ?_ (by have := Hb.out.size; simp <;> omega) _) | refine Below.drew ?_)

/-- The cells of an Int. -/
def intC (x : Bool × List UInt8) : List Value := [.bool x.1, .string (bs x.2)]
/-- The sum of whole numbers. -/
def isum (xs : List (Bool × List UInt8)) : Int := (xs.map fun x => iv x.1 x.2).sum
theorem isum_take (xs : List (Bool × List UInt8)) (k : Nat) (hk : k < xs.length) : isum (xs.take (k + 1)) = isum (xs.take k) + iv xs[k].1 xs[k].2 := by
  unfold isum
  rw [List.take_succ_eq_append_getElem hk, List.map_append, List.sum_append]
  simp
theorem isum_lt (xs : List (Bool × List UInt8)) (B : Nat) (h : ∀ x ∈ xs, x.2.length ≤ B) : (isum xs).natAbs ≤ xs.length * 256 ^ B := by
  unfold isum
  induction xs with
  | nil => simp
  | cons x xs ih =>
    have h1 := nv_lt x.2
    have h2 : 256 ^ x.2.length ≤ 256 ^ B := Nat.pow_le_pow_right (by decide) (h x (by simp))
    have h3 := ih (fun m hm => h m (by simp [hm]))
    have h4 := iv_abs x.1 x.2
    simp only [List.map_cons, List.sum_cons, List.length_cons]
    rw [Nat.add_mul, Nat.one_mul]; omega
theorem isum_len' (xs : List (Bool × List UInt8)) (B N : Nat) (h : ∀ x ∈ xs, x.2.length ≤ B) (hx : xs.length ≤ 1048576) (hN : B + 3 ≤ N) : (nt (isum xs).natAbs).length ≤ N := by
  refine nt_length_le (Nat.lt_of_le_of_lt (isum_lt xs _ h) ?_)
  refine Nat.lt_of_le_of_lt (Nat.mul_le_mul_right _ hx) ?_
  rw [show (1048576 : Nat) * 256 ^ B = 2 ^ 20 * 256 ^ B from rfl, show (256 : Nat) = 2 ^ 8 from rfl, ← Nat.pow_mul, ← Nat.pow_mul, ← Nat.pow_add]
  exact Nat.pow_lt_pow_right (by decide) (by omega)
theorem isum_len (xs : List (Bool × List UInt8)) (h : ∀ x ∈ xs, x.2.length ≤ 34359738368) (hx : xs.length ≤ 1048576) : (nt (isum xs).natAbs).length ≤ 68719476736 :=
  isum_len' xs 34359738368 68719476736 h hx (by decide)

set_option maxHeartbeats 2000000 in
set_option maxRecDepth 100000 in
theorem wAdd_any (xs : List (Bool × List UInt8)) (a : Option Addr) (cap : Nat) (w : World) (hl : ∀ x ∈ xs, x.2.length ≤ 34359738368) (hx : xs.length ≤ 1048576)
    (ha : At w a (xs.flatMap intC)) :
    Calls Tryz.prog 50 #[.slice a xs.length cap] w fun e w' => e = .returned (intV (isum xs)) ∧ Below w.heap.size w w' := by
  have Hl := Lib.hid hl; clear hl
  have Ha := Lib.hid ha; clear ha
  have HLn : Hid (∀ k, (nt (isum (xs.take k)).natAbs).length ≤ 68719476736) := fun k => isum_len _ (fun x hm => Hl.out x (List.mem_of_mem_take hm)) (by rw [List.length_take]; omega)
  go_enter Tryz.func50, Tryz.ntmps50
  have Hb : Hid (Below w.heap.size w w) := Below.refl _ _
  go_wp2_with fail
  first | refine wp_world (fun W => Blk W (w.heap.size) 34 [.bool false, .string (bs [])] ∧ Blk W (w.heap.size + 1) 126 [.string (bs []), .bool false] ∧ Below w.heap.size w W) ?hR ?_ | refine calls_world (fun W => Blk W (w.heap.size) 34 [.bool false, .string (bs [])] ∧ Blk W (w.heap.size + 1) 126 [.string (bs []), .bool false] ∧ Below w.heap.size w W) ?hR ?_
  case hR => exact ⟨((Blk.newAt w _ _ (b := w.heap.size) rfl).alloc _), (Blk.newAt (w.alloc _) _ _ (b := w.heap.size + 1) (by simp)), (((Below.refl _ _).alloc (Nat.le_refl _) _).alloc (by simp <;> omega) _)⟩
  rintro W ⟨qr, qs, hbn⟩
  have Hr := Lib.hid qr; clear qr
  have Hs := Lib.hid qs; clear qs
  have r0 : W.cell? ⟨w.heap.size, 0, none⟩ = some (.bool false) := Hr.out.cell 0
  have fr0 : W.frozen? ⟨w.heap.size, 0, none⟩ = false := Hr.out.free 0
  have r1 : W.cell? ⟨w.heap.size, 1, none⟩ = some (.string (bs [])) := Hr.out.cell 1
  have fr1 : W.frozen? ⟨w.heap.size, 1, none⟩ = false := Hr.out.free 1
  have s0 : W.cell? ⟨w.heap.size + 1, 0, none⟩ = some (.string (bs [])) := Hs.out.cell 0
  have fs0 : W.frozen? ⟨w.heap.size + 1, 0, none⟩ = false := Hs.out.free 0
  have s1 : W.cell? ⟨w.heap.size + 1, 1, none⟩ = some (.bool false) := Hs.out.cell 1
  have fs1 : W.frozen? ⟨w.heap.size + 1, 1, none⟩ = false := Hs.out.free 1
  replace Hb := Lib.hid (bnext Hb.out hbn); clear hbn
  go_loopw [5, 8] (fun _ i wr => ∃ (k : Nat) (t : Bool), k ≤ xs.length ∧ i = .int .i64 k ∧ iv t (nt (isum (xs.take k)).natAbs) = isum (xs.take k) ∧ Blk wr w.heap.size 34 [.bool false, .string (bs [])] ∧
      Blk wr (w.heap.size + 1) 126 [.string (bs (nt (isum (xs.take k)).natAbs)), .bool t] ∧ Below w.heap.size w wr) (fun _ i _ => xs.length - (intOf i).toNat)
  case atStart => exact ⟨0, false, Nat.zero_le _, rfl, rfl, Hr.out, Hs.out, Hb.out⟩
  case round =>
    obtain ⟨k, t, hk, rfl, hiv, qr, qs, hb⟩ := hrel
    have Hr := Lib.hid qr; have Hs := Lib.hid qs; have Hb := Lib.hid hb; have Hiv := Lib.hid hiv; clear qr qs hb hiv
    by_cases hlt : k < xs.length
    · obtain ⟨b, o, hab, hcs⟩ := (Ha.out.below Hb.out).elem (f := intC) (sz := 2) (fun _ => rfl) (by decide) k hlt
      have hc0 : wr.cell? ⟨b, o + k * 2, none⟩ = some (.bool xs[k].1) := hcs 0 (by decide)
      have hc1 : wr.cell? ⟨b, o + k * 2 + 1, none⟩ = some (.string (bs xs[k].2)) := hcs 1 (by decide)
      have hix := ixs (t := 123) (e := 34) (sz := 2) Tryz.underlying123 (by kernel_rfl) xs.length cap k (k : Int) hab hlt rfl
      have Hst := Lib.hid (isum_take xs k hlt)
      have HLx : Hid (xs[k].2.length ≤ 34359738368) := Hl.out _ (List.getElem_mem hlt)
      have HL1 := Lib.hid (HLn.out k)
      clear hcs hab
      generalize xs[k] = x at *
      obtain ⟨t1, l1⟩ := x
      generalize hS : isum (xs.take k) = S at *
      have HS := Lib.hid hS; clear hS
      have r0 : wr.cell? ⟨w.heap.size, 0, none⟩ = some (.bool false) := Hr.out.cell 0
      have fr0 : wr.frozen? ⟨w.heap.size, 0, none⟩ = false := Hr.out.free 0
      have r1 : wr.cell? ⟨w.heap.size, 1, none⟩ = some (.string (bs [])) := Hr.out.cell 1
      have fr1 : wr.frozen? ⟨w.heap.size, 1, none⟩ = false := Hr.out.free 1
      have s0 : wr.cell? ⟨w.heap.size + 1, 0, none⟩ = some (.string (bs (nt S.natAbs))) := Hs.out.cell 0
      have fs0 : wr.frozen? ⟨w.heap.size + 1, 0, none⟩ = false := Hs.out.free 0
      have s1 : wr.cell? ⟨w.heap.size + 1, 1, none⟩ = some (.bool t) := Hs.out.cell 1
      have fs1 : wr.frozen? ⟨w.heap.size + 1, 1, none⟩ = false := Hs.out.free 1
      have lz_r_W1 : w.heap.size < wr.heap.size := Hr.out.lt
      have lz_s_W1 : w.heap.size + 1 < wr.heap.size := Hs.out.lt
      go_wp2_with fail
      first | refine wp_world (fun W1 => Blk W1 (wr.heap.size) 34 [.bool t1, .string (bs l1)] ∧ Below wr.heap.size wr W1) ?hR ?_ | refine calls_world (fun W1 => Blk W1 (wr.heap.size) 34 [.bool t1, .string (bs l1)] ∧ Below wr.heap.size wr W1) ?hR ?_
      case hR => exact ⟨(Blk.newAt wr _ _ (b := wr.heap.size) rfl), ((Below.refl _ _).alloc (Nat.le_refl _) _)⟩
      rintro W1 ⟨qa, hbn⟩
      have Ha := Lib.hid qa; clear qa
      clear r0 fr0 r1 fr1
      replace Hr := Lib.hid (Hr.out.below hbn)
      have r0 : W1.cell? ⟨w.heap.size, 0, none⟩ = some (.bool false) := Hr.out.cell 0
      have fr0 : W1.frozen? ⟨w.heap.size, 0, none⟩ = false := Hr.out.free 0
      have r1 : W1.cell? ⟨w.heap.size, 1, none⟩ = some (.string (bs [])) := Hr.out.cell 1
      have fr1 : W1.frozen? ⟨w.heap.size, 1, none⟩ = false := Hr.out.free 1
      clear s0 fs0 s1 fs1
      replace Hs := Lib.hid (Hs.out.below hbn)
      have s0 : W1.cell? ⟨w.heap.size + 1, 0, none⟩ = some (.string (bs (nt S.natAbs))) := Hs.out.cell 0
      have fs0 : W1.frozen? ⟨w.heap.size + 1, 0, none⟩ = false := Hs.out.free 0
      have s1 : W1.cell? ⟨w.heap.size + 1, 1, none⟩ = some (.bool t) := Hs.out.cell 1
      have fs1 : W1.frozen? ⟨w.heap.size + 1, 1, none⟩ = false := Hs.out.free 1
      have a0 : W1.cell? ⟨wr.heap.size, 0, none⟩ = some (.bool t1) := Ha.out.cell 0
      have a1 : W1.cell? ⟨wr.heap.size, 1, none⟩ = some (.string (bs l1)) := Ha.out.cell 1
      replace Hb := Lib.hid (bnext Hb.out hbn); clear hbn
      go_region_with (first | (go_at_call 72; refine (wof_any l1 t1 _).mono ?_; rintro e w1 ⟨rfl, hq⟩; have hw1 : Below W1.heap.size W1 w1 := bundrew hq; clear hq; have s0_1 : w1.cell? ⟨w.heap.size + 1, 0, none⟩ = some (.string (bs (nt S.natAbs))) := cell_later hw1 s0; have s1_1 : w1.cell? ⟨w.heap.size + 1, 1, none⟩ = some (.bool t) := cell_later hw1 s1; have fs0_1 := (Hs.out.below hw1).free 0; have fs1_1 := (Hs.out.below hw1).free 1) | (go_at_call 71; refine (plus_any (nt S.natAbs) l1 t t1 _ HL1.out (by have := HLx.out; omega)).mono ?_; rintro e w2 ⟨rfl, hw2⟩; have s0_2 := cell_later hw2 s0_1; have s1_2 := cell_later hw2 s1_1; have fs0_2 := ((Hs.out.below hw1).below hw2).free 0; have fs1_2 := ((Hs.out.below hw1).below hw2).free 1))
      all_goals
        go_wp2
        go_roundw
        case rel =>
          have hq := psign_iv t (nt S.natAbs) t1 l1
          rw [Hiv.out, ← Hst.out] at hq
          rw [Hiv.out, ← Hst.out]
          refine ⟨k + 1, _, by omega, by go_num, hq, ((((Hr.out.below hw1).below hw2).set_other ⟨w.heap.size + 1, 0, none⟩ (by dsimp only; omega) _).set_other ⟨w.heap.size + 1, 1, none⟩ (by dsimp only; omega) _), ((((Hs.out.below hw1).below hw2).set 0 _).set 1 _), ?_⟩
          exact ((bnext (bnext Hb.out hw1) hw2).setCell (by dsimp only; omega) _).setCell (by dsimp only; omega) _
        case measure => simp [intOf]; omega
    · obtain rfl : k = xs.length := by omega
      rw [List.take_length] at Hs Hiv
      have HL1 := HLn.out xs.length
      rw [List.take_length] at HL1
      have r0 : wr.cell? ⟨w.heap.size, 0, none⟩ = some (.bool false) := Hr.out.cell 0
      have fr0 : wr.frozen? ⟨w.heap.size, 0, none⟩ = false := Hr.out.free 0
      have r1 : wr.cell? ⟨w.heap.size, 1, none⟩ = some (.string (bs [])) := Hr.out.cell 1
      have fr1 : wr.frozen? ⟨w.heap.size, 1, none⟩ = false := Hr.out.free 1
      have s0 : wr.cell? ⟨w.heap.size + 1, 0, none⟩ = some (.string (bs (nt (isum xs).natAbs))) := Hs.out.cell 0
      have fs0 : wr.frozen? ⟨w.heap.size + 1, 0, none⟩ = false := Hs.out.free 0
      have s1 : wr.cell? ⟨w.heap.size + 1, 1, none⟩ = some (.bool t) := Hs.out.cell 1
      have fs1 : wr.frozen? ⟨w.heap.size + 1, 1, none⟩ = false := Hs.out.free 1
      go_wp2_with fail
      refine (made_any (nt (isum xs).natAbs) t _ (by omega)).mono ?_
      rintro e w1 ⟨rfl, hbn⟩
      clear r0 fr0 r1 fr1
      clear s0 fs0 s1 fs1
      replace Hr := Lib.hid (Hr.out.below hbn)
      replace Hs := Lib.hid (Hs.out.below hbn)
      have r0 : w1.cell? ⟨w.heap.size, 0, none⟩ = some (.bool false) := Hr.out.cell 0
      have fr0 : w1.frozen? ⟨w.heap.size, 0, none⟩ = false := Hr.out.free 0
      have r1 : w1.cell? ⟨w.heap.size, 1, none⟩ = some (.string (bs [])) := Hr.out.cell 1
      have fr1 : w1.frozen? ⟨w.heap.size, 1, none⟩ = false := Hr.out.free 1
      have s0 : w1.cell? ⟨w.heap.size + 1, 0, none⟩ = some (.string (bs (nt (isum xs).natAbs))) := Hs.out.cell 0
      have fs0 : w1.frozen? ⟨w.heap.size + 1, 0, none⟩ = false := Hs.out.free 0
      have s1 : w1.cell? ⟨w.heap.size + 1, 1, none⟩ = some (.bool t) := Hs.out.cell 1
      have fs1 : w1.frozen? ⟨w.heap.size + 1, 1, none⟩ = false := Hs.out.free 1
      replace Hb := Lib.hid (bnext Hb.out hbn); clear hbn
      rw [Hiv.out]
      go_wp2
      refine bodyPost_ret (v := intV (isum xs)) (by simp [results, Tryz.results50, go_sem, r0, r1]) rfl ⟨rfl, ?_⟩
      (repeat first | exact Hb.out | (refine Below.setCell ?_ (by have := Hb.out.size; first | (dsimp only; omega) | (show _ ≤ _; omega) | (simp <;> omega)) _) | (refine Below.alloc ?_ (by have := Hb.out.size; simp <;> omega) _) | refine Below.drew ?_)
end Go.Proofs.YtidjljldhdckiaaGreatDoor
