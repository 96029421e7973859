/- The statement's helpers: ogeeref16.Same, ogeelaw17.vast. -/
import Derived.Test.YtidjljldhdckiaaGreatDoorKScast8
namespace Go.Proofs.YtidjljldhdckiaaGreatDoor
open Go.RowKit
attribute [local go_sem ↓] Go.wp_at_zero Go.wp_at_succ

/-- The cells of a number in a slice of numbers. -/
theorem At.num {W : World} {a : Option Addr} {raws : List Raw} (h : At W a (raws.flatMap numC)) (k : Nat) (hk : k < raws.length) {s : Bool} {m : List UInt8} {e : Int} (hx : raws[k] = (s, m, e)) :
    ∃ b o, a = some ⟨b, o, none⟩ ∧ W.cell? ⟨b, o + k * 3, none⟩ = some (.bool s) ∧ W.cell? ⟨b, o + k * 3 + 1, none⟩ = some (.string (bs m)) ∧ W.cell? ⟨b, o + k * 3 + 2, none⟩ = some (.int .i64 e) := by
  obtain ⟨b, o, ha, hc⟩ := h.elem (f := numC) (sz := 3) (fun _ => rfl) (by decide) k hk
  rw [hx] at hc
  exact ⟨b, o, ha, by simpa [numC] using hc 0 (by decide), by simpa [numC] using hc 1 (by decide), by simpa [numC] using hc 2 (by decide)⟩

set_option maxHeartbeats 4000000 in
set_option maxRecDepth 100000 in
theorem same_true (v d : Int) (a a' : Option Addr) (n cap cap' : Nat) (raws : List Raw) (w : World) (hn : raws.length = n) (hl : n ≤ 1048576) (ha : At w a (raws.flatMap numC)) (ha' : At w a' (raws.flatMap numC)) :
    Calls Tryz.prog 9 #[.agg #[.int .i64 v, .int .i64 d, .slice a n cap], .agg #[.int .i64 v, .int .i64 d, .slice a' n cap']] w fun e w' => e = .returned (.bool true) ∧ Below w.heap.size w w' := by
  have Ha := Lib.hid ha; have Ha' := Lib.hid ha'; have Hn := Lib.hid hn; clear ha ha' hn
  go_enter Tryz.func9, Tryz.ntmps9
  have Hb : Hid (Below w.heap.size w w) := Below.refl _ _
  go_wp2_with fail
  first | refine wp_world (fun W => Blk W (w.heap.size) 24 [.int .i64 v, .int .i64 d, .slice a n cap] ∧ Blk W (w.heap.size + 1) 24 [.int .i64 v, .int .i64 d, .slice a' n cap'] ∧ Below w.heap.size w W) ?hR ?_ | refine calls_world (fun W => Blk W (w.heap.size) 24 [.int .i64 v, .int .i64 d, .slice a n cap] ∧ Blk W (w.heap.size + 1) 24 [.int .i64 v, .int .i64 d, .slice a' n cap'] ∧ Below w.heap.size w W) ?hR ?_
  case hR => exact ⟨((Blk.newAt w _ _ (b := w.heap.size) rfl).alloc _), (Blk.newAt (w.alloc _) _ _ (b := w.heap.size + 1) (by simp)), (((Below.refl _ _).alloc (Nat.le_refl _) _).alloc (by simp <;> omega) _)⟩
  rintro W ⟨qx, qy, hbn⟩
  have Hx := Lib.hid qx; clear qx
  have Hy := Lib.hid qy; clear qy
  have x0 : W.cell? ⟨w.heap.size, 0, none⟩ = some (.int .i64 v) := Hx.out.cell 0
  have x1 : W.cell? ⟨w.heap.size, 1, none⟩ = some (.int .i64 d) := Hx.out.cell 1
  have x2 : W.cell? ⟨w.heap.size, 2, none⟩ = some (.slice a n cap) := Hx.out.cell 2
  have y0 : W.cell? ⟨w.heap.size + 1, 0, none⟩ = some (.int .i64 v) := Hy.out.cell 0
  have y1 : W.cell? ⟨w.heap.size + 1, 1, none⟩ = some (.int .i64 d) := Hy.out.cell 1
  have y2 : W.cell? ⟨w.heap.size + 1, 2, none⟩ = some (.slice a' n cap') := Hy.out.cell 2
  replace Hb := Lib.hid (bnext Hb.out hbn); clear hbn
  go_wp2_with fail
  go_loopw [5] (fun i wr => ∃ k : Nat, k ≤ n ∧ i = .int .i64 (k : Int) ∧ Blk wr w.heap.size 24 [.int .i64 v, .int .i64 d, .slice a n cap] ∧ Blk wr (w.heap.size + 1) 24 [.int .i64 v, .int .i64 d, .slice a' n cap'] ∧ Below w.heap.size w wr) (fun i _ => n - (intOf i).toNat)
  case atStart => exact ⟨0, Nat.zero_le _, rfl, Hx.out, Hy.out, Hb.out⟩
  case round =>
    clear x0 x1 x2 y0 y1 y2
    obtain ⟨k, hk, rfl, pX, pY, pb⟩ := hrel
    have x2 : wr.cell? ⟨w.heap.size, 2, none⟩ = some (.slice a n cap) := pX.cell 2
    have y2 : wr.cell? ⟨w.heap.size + 1, 2, none⟩ = some (.slice a' n cap') := pY.cell 2
    by_cases hlt : k < n
    · have hlt2 : k < raws.length := by rw [Hn.out]; exact hlt
      obtain ⟨s, m, e, hx⟩ : ∃ s m e, raws[k] = (s, m, e) := ⟨_, _, _, rfl⟩
      obtain ⟨b1, o1, hab1, p0, p1, p2⟩ := (Ha.out.below pb).num k hlt2 hx
      obtain ⟨b2, o2, hab2, q0, q1, q2⟩ := (Ha'.out.below pb).num k hlt2 hx
      have hix1 := ixs (t := 22) (e := 36) (sz := 3) Tryz.underlying22 (by kernel_rfl) n cap k (k : Int) hab1 hlt rfl
      have hix2 := ixs (t := 22) (e := 36) (sz := 3) Tryz.underlying22 (by kernel_rfl) n cap' k (k : Int) hab2 hlt rfl
      have H1 := Lib.hid pX; have H2 := Lib.hid pY; have H3 := Lib.hid pb
      clear hx pX pY pb hab1 hab2
      go_wp2
      go_region
      go_wp2
      go_roundw
      case rel => exact ⟨k + 1, by omega, by go_num, H1.out.drew, H2.out.drew, H3.out.drew⟩
      case measure => simp [intOf]; omega
    · obtain rfl : k = n := by omega
      go_wp2
      go_ret
      exact ⟨rfl, pb⟩

/-- What vast lets by. -/
def Fair (d : Int) (raws : List Raw) : Prop := raws.length ≤ 60 ∧ ¬ (6 < d ∧ d < 20) ∧ ∀ x ∈ raws, x.2.1.length ≤ 12 ∧ -60 ≤ x.2.2 ∧ x.2.2 ≤ 60

/-- What vast answers. -/
def VastR (d : Int) (raws : List Raw) (e : Ending) : Prop := ∃ t, e = .returned (.bool t) ∧ (t = false → Fair d raws)

theorem any_take {raws : List Raw} {Q : Raw → Prop} {k : Nat} (hk : k < raws.length) (h : ∀ x ∈ raws.take k, Q x) (hx : Q raws[k]) : ∀ x ∈ raws.take (k + 1), Q x := by
  intro x hm
  rw [List.take_succ_eq_append_getElem hk, List.mem_append] at hm
  rcases hm with hm | hm
  · exact h x hm
  · simp at hm; subst hm; exact hx

set_option maxHeartbeats 4000000 in
set_option maxRecDepth 100000 in
theorem vast_any (v d : Int) (a : Option Addr) (n cap : Nat) (raws : List Raw) (w : World) (hn : raws.length = n) (ha : At w a (raws.flatMap numC)) :
    Calls Tryz.prog 5 #[.agg #[.int .i64 v, .int .i64 d, .slice a n cap]] w fun e w' => VastR d raws e ∧ Below w.heap.size w w' := by
  have Ha := Lib.hid ha; have Hn := Lib.hid hn; clear ha hn
  obtain ⟨W, hW_W⟩ : ∃ W, (w.alloc (.cells #[.int .i64 v, .int .i64 d, .slice a n cap] 24)) = W := ⟨_, rfl⟩
  have Hb : Hid (Below w.heap.size w W) := by rw [← hW_W]; exact ((Below.refl _ _).alloc (Nat.le_refl _) _)
  have Hx : Hid (Blk W (w.heap.size) 24 [.int .i64 v, .int .i64 d, .slice a n cap]) := by rw [← hW_W]; exact Blk.newAt _ _ _ (by simp)
  have x0 : W.cell? ⟨w.heap.size, 0, none⟩ = some (.int .i64 v) := Hx.out.cell 0
  have x1 : W.cell? ⟨w.heap.size, 1, none⟩ = some (.int .i64 d) := Hx.out.cell 1
  have x2 : W.cell? ⟨w.heap.size, 2, none⟩ = some (.slice a n cap) := Hx.out.cell 2
  by_cases h60 : 60 < n
  · have h61 : (60 : Int) < (n : Int) := by omega
    go_enter Tryz.func5, Tryz.ntmps5
    go_wp2
    go_ret
    exact ⟨⟨true, rfl, fun h => by cases h⟩, Hb.out⟩
  have h61 : ¬ (60 : Int) < (n : Int) := by omega
  by_cases hd : 6 < d ∧ d < 20
  · obtain ⟨hd1, hd2⟩ := hd
    go_enter Tryz.func5, Tryz.ntmps5
    go_wp2
    go_ret
    exact ⟨⟨true, rfl, fun h => by cases h⟩, Hb.out⟩
  have HF : Hid (¬ (6 < d ∧ d < 20)) := hd
  rcases (show ¬ 6 < d ∨ (6 < d ∧ ¬ d < 20) by omega) with h | ⟨h, h'⟩
  all_goals
    clear hd
    go_enter Tryz.func5, Tryz.ntmps5
    go_wp2_with fail
    go_loopw [3] (fun i wr => ∃ k : Nat, k ≤ n ∧ i = .int .i64 (k : Int) ∧ Blk wr w.heap.size 24 [.int .i64 v, .int .i64 d, .slice a n cap] ∧ Below w.heap.size w wr ∧ ∀ x ∈ raws.take k, x.2.1.length ≤ 12 ∧ -60 ≤ x.2.2 ∧ x.2.2 ≤ 60) (fun i _ => n - (intOf i).toNat)
    case atStart => exact ⟨0, Nat.zero_le _, rfl, Hx.out, Hb.out, fun x hx => by simp at hx⟩
    case round =>
      clear x0 x1 x2
      obtain ⟨k, hk, rfl, pX, pb, pa⟩ := hrel
      have x2 : wr.cell? ⟨w.heap.size, 2, none⟩ = some (.slice a n cap) := pX.cell 2
      have Hpa := Lib.hid pa; clear pa
      by_cases hlt : k < n
      · have hlt2 : k < raws.length := by rw [Hn.out]; exact hlt
        obtain ⟨s, m, e, hx⟩ : ∃ s m e, raws[k] = (s, m, e) := ⟨_, _, _, rfl⟩
        obtain ⟨b1, o1, hab1, p0, p1, p2⟩ := (Ha.out.below pb).num k hlt2 hx
        have hix1 := ixs (t := 22) (e := 36) (sz := 3) Tryz.underlying22 (by kernel_rfl) n cap k (k : Int) hab1 hlt rfl
        have H1 := Lib.hid pX; have H3 := Lib.hid pb; have Hx0 := Lib.hid hx
        have hsz : (bs m).size = m.length := bs_size m
        clear hx pX pb hab1
        by_cases g : m.length ≤ 12 ∧ -60 ≤ e ∧ e ≤ 60
        · obtain ⟨g1, g2, g3⟩ := g
          have g4 : ¬ (12 : Int) < (m.length : Int) := by omega
          have g5 : ¬ e < -60 := by omega
          have g6 : ¬ 60 < e := by omega
          go_wp2
          go_roundw
          case rel => exact ⟨k + 1, by omega, by go_num, H1.out, H3.out, any_take hlt2 Hpa.out (by rw [Hx0.out]; exact ⟨g1, g2, g3⟩)⟩
          case measure => simp [intOf]; omega
        · rcases (show (12 : Int) < (m.length : Int) ∨ (¬ (12 : Int) < (m.length : Int) ∧ e < -60) ∨ (¬ (12 : Int) < (m.length : Int) ∧ ¬ e < -60 ∧ 60 < e) by omega) with g1 | ⟨g1, g2⟩ | ⟨g1, g2, g3⟩
          all_goals
            clear g
            go_wp2
            go_ret
            exact ⟨⟨true, rfl, fun h => by cases h⟩, H3.out⟩
      · obtain rfl : k = n := by omega
        have hall : ∀ x ∈ raws, x.2.1.length ≤ 12 ∧ -60 ≤ x.2.2 ∧ x.2.2 ≤ 60 := by
          have := Hpa.out
          rwa [← Hn.out, List.take_length] at this
        have Hall := Lib.hid hall; have Hpb := Lib.hid pb; clear hall pb
        go_wp2
        go_ret
        exact ⟨⟨false, rfl, fun _ => ⟨by rw [Hn.out]; omega, HF.out, Hall.out⟩⟩, Hpb.out⟩
end Go.Proofs.YtidjljldhdckiaaGreatDoor
