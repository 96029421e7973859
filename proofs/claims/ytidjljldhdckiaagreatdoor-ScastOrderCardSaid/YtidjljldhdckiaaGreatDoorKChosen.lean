/- Package scast: chosen, a row of Pascal's triangle. -/
import Derived.Test.YtidjljldhdckiaaGreatDoorJLaw17
import Derived.Test.YtidjljldhdckiaaGreatDoorKDyad3
namespace Go.Proofs.YtidjljldhdckiaaGreatDoor
open Go.RowKit
attribute [local go_sem ↓] Go.wp_at_zero Go.wp_at_succ

theorem Tryz.infoI8 : (Tryz.prog.info? 2).map (fun i => (i.zero, i.size, i.bytes)) = some (some (.int .i64 0), 1, 8) := by kernel_rfl

/-- Whole numbers in cells. -/
def ils (n : Nat) (f : Nat → Nat) : List Value := (List.range n).map fun j => .int .i64 (f j : Int)
theorem ils_length (n : Nat) (f : Nat → Nat) : (ils n f).length = n := by simp [ils]
theorem ils_get (n : Nat) (f : Nat → Nat) (j : Nat) (h : j < n) : (ils n f)[j]? = some (.int .i64 (f j : Int)) := by
  simp [ils, List.getElem?_range h]
theorem ils_congr {n : Nat} {f g : Nat → Nat} (h : ∀ j, j < n → f j = g j) : ils n f = ils n g := by
  unfold ils
  refine List.map_congr_left fun j hj => ?_
  rw [h j (by simpa using hj)]
theorem ils_set (n : Nat) (f : Nat → Nat) (i x : Nat) : (ils n f).set i (.int .i64 (x : Int)) = ils n (fun j => if j = i then x else f j) := by
  apply List.ext_getElem?
  intro j
  rw [List.getElem?_set, ils_length]
  by_cases h : j < n
  · rw [ils_get _ _ _ h, ils_get _ _ _ h]
    by_cases e : i = j
    · subst e; simp [h]
    · simp [e, Ne.symm e]
  · by_cases e : i = j
    · subst e; simp [ils, h]
    · simp [e, ils, h]
theorem ils_zero (n : Nat) : List.replicate n (Value.int .i64 0) = ils n fun _ => 0 := by
  apply List.ext_getElem?
  intro j
  by_cases h : j < n
  · rw [ils_get _ _ _ h]; simp [h]
  · simp [ils, h]
theorem mk_i64 (c : Int) (n : Nat) (hc : c = n) (h : n ≤ 1099511627776) (w : World) :
    (Instr.makeSlice 89 (.int .i64 c) (.int .i64 c)).run Tryz.prog w = .ok (.slice (some ⟨w.heap.size, 0, none⟩) n n) (w.alloc (.cells (ils n fun _ => 0).toArray 2)) := by
  subst hc
  obtain ⟨i0, hi, hz0, hz1, hz2⟩ := info_parts Tryz.infoI8
  rw [run_make (P := Tryz.prog) w 89 2 i0 _ Tryz.underlying89 hi hz0 .i64 .i64 n n (by omega) (by omega) (by rw [hz2]; omega) (by omega)]
  simp only [Int.toNat_natCast, hz1, Nat.mul_one]
  rw [← ils_zero, ← toList_madeCells_one]
  simp [Value.cells]

theorem ch_le (n k : Nat) : ch n k ≤ 2 ^ n := by
  induction n generalizing k with
  | zero => cases k <;> simp [ch]
  | succ n ih => cases k with
    | zero => rw [ch_zero]; exact Nat.pow_pos (by decide)
    | succ k => rw [ch, Nat.pow_succ]; have := ih k; have := ih (k + 1); omega

/-- A row of the triangle that is half made. -/
def chMix (i k j : Nat) : Nat := if k < j then ch (i + 1) j else ch i j

set_option maxHeartbeats 2000000 in
set_option maxRecDepth 100000 in
theorem chosen_any (n : Nat) (hn : n ≤ 20) (w : World) :
    Calls Tryz.prog 44 #[.int .i64 (n : Int)] w fun e w' => e = .returned (.slice (some ⟨w.heap.size, 0, none⟩) (n + 1) (n + 1)) ∧ Blk w' w.heap.size 2 (ils (n + 1) (ch n)) ∧ Below w.heap.size w w' := by
  have hmk := mk_i64 ((n : Int) + 1) (n + 1) (by omega) (by omega)
  have h0 : (ils (n + 1) fun _ => 0).set 0 (.int .i64 1) = ils (n + 1) (ch 0) := by
    have := ils_set (n + 1) (fun _ => 0) 0 1
    rw [show ((1 : Nat) : Int) = 1 from rfl] at this
    rw [this]
    refine ils_congr (fun j _ => ?_)
    cases j with
    | zero => rfl
    | succ j => rfl
  obtain ⟨W, hW⟩ : ∃ W, (w.alloc (.cells (ils (n + 1) fun _ => 0).toArray 2)).setCell ⟨w.heap.size, 0, none⟩ (.int .i64 1) = W := ⟨_, rfl⟩
  have hB : Blk W w.heap.size 2 (ils (n + 1) (ch 0)) := by rw [← hW, ← h0]; exact (Blk.new w _ _).set 0 _
  have hbl : Below w.heap.size w W := by rw [← hW]; exact ((Below.refl _ _).alloc (Nat.le_refl _) _).setCell (by simp) _
  have n0 : (w.alloc (.cells (ils (n + 1) fun _ => 0).toArray 2)).cell? ⟨w.heap.size, 0, none⟩ = some (.int .i64 0) := by rw [(Blk.new w _ _).cell 0, ils_get _ _ _ (by omega)]; rfl
  have nf : (w.alloc (.cells (ils (n + 1) fun _ => 0).toArray 2)).frozen? ⟨w.heap.size, 0, none⟩ = false := (Blk.new w _ _).free 0
  have HB := Lib.hid hB; have Hbl := Lib.hid hbl; clear h0 hB hbl
  go_enter Tryz.func44, Tryz.ntmps44
  go_wp2_with fail
  go_loopw [4, 5, 12] (fun _ _ i wr => ∃ k : Nat, k ≤ n ∧ i = .int .i64 (k : Int) ∧ Blk wr w.heap.size 2 (ils (n + 1) (ch k)) ∧ Below w.heap.size w wr) (fun _ _ i _ => n - (intOf i).toNat)
  case atStart => exact ⟨0, Nat.zero_le _, rfl, HB.out, Hbl.out⟩
  case round =>
    obtain ⟨k, hk, rfl, pB, pb⟩ := hrel
    by_cases hlt : k < n
    · go_wp2_with fail
      go_loopw [5] (fun i wr => ∃ m : Nat, m ≤ k + 1 ∧ i = .int .i64 (m : Int) ∧ Blk wr w.heap.size 2 (ils (n + 1) (chMix k m)) ∧ Below w.heap.size w wr) (fun i _ => (intOf i).toNat)
      case atStart =>
        refine ⟨k + 1, Nat.le_refl _, by go_num, ?_, pb⟩
        rw [ils_congr (g := ch k) (fun j _ => ?_)]
        · exact pB
        · unfold chMix
          split
          · rw [ch_big _ _ (by omega), ch_big _ _ (by omega)]
          · rfl
      case round =>
        obtain ⟨m, hm, rfl, qB, qb⟩ := hrel
        clear pB pb n0 nf
        by_cases hp : 0 < m
        · have c0 : wr.cell? ⟨w.heap.size, m, none⟩ = some (.int .i64 (ch k m : Int)) := by
            rw [qB.cell, ils_get _ _ _ (by omega)]
            unfold chMix; rw [if_neg (by omega)]
          have c1 : wr.cell? ⟨w.heap.size, m - 1, none⟩ = some (.int .i64 (ch k (m - 1) : Int)) := by
            rw [qB.cell, ils_get _ _ _ (by omega)]
            unfold chMix; rw [if_neg (by omega)]
          have fz : wr.frozen? ⟨w.heap.size, m, none⟩ = false := qB.free _
          have l1 : ch k m ≤ 1048576 := Nat.le_trans (ch_le k m) (Nat.pow_le_pow_right (by decide) (show k ≤ 20 by omega))
          have l2 : ch k (m - 1) ≤ 1048576 := Nat.le_trans (ch_le k (m - 1)) (Nat.pow_le_pow_right (by decide) (show k ≤ 20 by omega))
          have hs : ch k m + ch k (m - 1) = ch (k + 1) m := by
            obtain ⟨m', rfl⟩ : ∃ m', m = m' + 1 := ⟨m - 1, by omega⟩
            rw [Nat.add_sub_cancel, ch]; omega
          have qB2 := qB.set m (.int .i64 ((ch (k + 1) m : Nat) : Int))
          rw [ils_set, ils_congr (g := chMix k (m - 1)) (fun j _ => by
            unfold chMix
            by_cases e : j = m
            · subst e; rw [if_pos rfl, if_pos (by omega)]
            · rw [if_neg e]
              by_cases e2 : m < j
              · rw [if_pos e2, if_pos (by omega)]
              · rw [if_neg e2, if_neg (by omega)])] at qB2
          rw [← hs] at qB2
          have ix1 := ixs (t := 89) (e := 2) (sz := 1) Tryz.underlying89 (by kernel_rfl) (n + 1) (n + 1) m (m : Int) (show (some ⟨w.heap.size, 0, none⟩ : Option Addr) = some ⟨w.heap.size, 0, none⟩ from rfl) (by omega) rfl
          have ix2 := ixs (t := 89) (e := 2) (sz := 1) Tryz.underlying89 (by kernel_rfl) (n + 1) (n + 1) (m - 1) ((m : Int) - 1) (show (some ⟨w.heap.size, 0, none⟩ : Option Addr) = some ⟨w.heap.size, 0, none⟩ from rfl) (by omega) (by omega)
          rw [Nat.mul_one, Nat.zero_add] at ix1 ix2
          have e0 : ((ch k m + ch k (m - 1) : Nat) : Int) = (ch k m : Int) + (ch k (m - 1) : Int) := by omega
          rw [e0] at qB2
          have HqB2 := Lib.hid qB2
          clear qB2 hs e0
          generalize hA : (ch k m : Int) = A at *
          generalize hA2 : (ch k (m - 1) : Int) = A2 at *
          have b1 : 0 ≤ A ∧ A ≤ 1048576 := by omega
          have b2 : 0 ≤ A2 ∧ A2 ≤ 1048576 := by omega
          clear hA hA2 l1 l2
          go_wp2
          go_region
          go_wp2
          go_roundw
          case rel =>
            refine ⟨m - 1, by omega, by go_num, ?_, ?_⟩
            · exact HqB2.out
            · exact Below.drew (qb.setCell (by dsimp only; omega) _)
          case measure => simp [intOf]; omega
        · obtain rfl : m = 0 := by omega
          go_wp2
          go_roundw
          case rel =>
            refine ⟨k + 1, by omega, by go_num, ?_, qb⟩
            rw [ils_congr (g := chMix k 0) (fun j _ => ?_)]
            · exact qB
            · unfold chMix
              split
              · rfl
              · obtain rfl : j = 0 := by omega
                rw [ch_zero, ch_zero]
          case measure => simp [intOf]; omega
    · obtain rfl : k = n := by omega
      go_wp2
      go_ret
      exact ⟨rfl, pB, pb⟩
end Go.Proofs.YtidjljldhdckiaaGreatDoor
