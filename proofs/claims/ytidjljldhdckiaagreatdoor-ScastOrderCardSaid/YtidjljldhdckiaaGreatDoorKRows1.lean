/- Package simp: rows, as an iterator. -/
import Derived.Test.YtidjljldhdckiaaGreatDoorKSeq
import Derived.Test.YtidjljldhdckiaaGreatDoorJNat3
import Derived.Shelf.Abstract
import Derived.Shelf.RegionOpen
import Derived.WalkKit
import Derived.OwnWalkIn
import Derived.TacticsInMore
import Derived.LoopNIn
import Derived.LoopIn
namespace Go.Proofs.YtidjljldhdckiaaGreatDoor
open Go.RowKit Go.Shelf

/-- All rows of so many exponents that are so much together, falling. -/
def rowsL : Nat → Nat → List (List Nat)
  | 0, _ => []
  | 1, s => [[s]]
  | n + 2, s => (List.range (s + 1)).flatMap fun i => (rowsL (n + 1) i).map ((s - i) :: ·)

/-- A row of exponents, as bytes. -/
abbrev ex (x : List Nat) : ByteArray := bs (x.map UInt8.ofNat)

theorem rows_any (n s : Int) (w : World) :
    Calls Tryz.prog 47 #[.int .i64 n, .int .i64 s] w fun e w' => e = .returned (.func (.func 66) #[] #[.pointer (some ⟨w.heap.size, 0, none⟩), .pointer (some ⟨w.heap.size + 1, 0, none⟩)]) ∧
      Blk w' w.heap.size 3 [.int .i64 n] ∧ Blk w' (w.heap.size + 1) 3 [.int .i64 s] ∧ Below w.heap.size w w' := by
  go_enter Tryz.func47, Tryz.ntmps47
  go_wp2
  go_ret
  exact ⟨rfl, (Blk.new w 3 [.int .i64 n]).alloc _, Blk.newAt _ 3 [.int .i64 s] (by simp), ((Below.refl _ _).alloc (Nat.le_refl _) _).alloc (by simp) _⟩

attribute [local go_sem] Oper.semAt_some

theorem Steps.later {J : (Nat → Prop) → World → Prop} {Y : Nat → Prop} {A B C : World} (h : Steps J Y B C) (hc : Chg Y A B) : Steps J Y A C := by
  obtain ⟨Z, hj, hc2, hz⟩ := h
  refine ⟨Z, hj, hc.trans hc2 (fun b h => .inl h), fun b hb => ?_⟩
  rcases hz b hb with h1 | h1
  · exact .inl h1
  · exact .inr (Nat.le_trans hc.size h1)

def okRows (bn bs' n s : Nat) (Y : Nat → Prop) (W : World) : Prop := Blk W bn 3 [.int .i64 (n : Int)] ∧ Blk W bs' 3 [.int .i64 (s : Int)] ∧ ¬ Y bn ∧ ¬ Y bs'

set_option maxHeartbeats 2000000 in
set_option maxRecDepth 100000 in
theorem rows_one (bn b2 s : Nat) (hs : s ≤ 255) : Gives Tryz.prog 66 #[.pointer (some ⟨bn, 0, none⟩), .pointer (some ⟨b2, 0, none⟩)] (fun x => #[.string (ex x)]) (okRows bn b2 1 s) (rowsL 1 s) := by
  intro l J hJ hL hY m Y W h0 ⟨q1, q2, y1, y2⟩
  have c1 : W.cell? ⟨bn, 0, none⟩ = some (.int .i64 1) := q1.cell 0
  have c2 : W.cell? ⟨b2, 0, none⟩ = some (.int .i64 s) := q2.cell 0
  have l1 := q1.lt
  have l2 := q2.lt
  have hcv : IntKind.u8.wrap (s : Int) = s := by rw [IntKind.wrap_u8]; omega
  obtain ⟨W2, hW2⟩ : ∃ W2, (W.alloc (.cells #[.func (.yield l) #[] #[]] 119)).alloc (.cells #[.int .u8 (s : Int)] 5) = W2 := ⟨_, rfl⟩
  obtain ⟨x, hx⟩ : ∃ x, ex [s] = x := ⟨_, rfl⟩
  have hb2 : Below W.heap.size W W2 := by rw [← hW2]; exact ((Below.refl _ _).alloc (Nat.le_refl _) _).alloc (by simp) _
  have hcv2 : (convert 67 9 (.slice (some ⟨W.heap.size + 1, 0, none⟩) 1 1)).run Tryz.prog W2 = .ok (.string x) W2 := by
    have hB : Blk W2 (W.heap.size + 1) 5 (ubs 1 (fun _ => s)) := by rw [← hW2]; exact Blk.newAt _ _ _ (by simp)
    rw [← hx]; exact to_string hB 1
  obtain ⟨fn, tmps, assign, body, hy, hR⟩ := hY (m - 1) [] [s] Y W2 ((hJ []).below h0 hb2) (by simp [rowsL])
  dsimp only at hy
  rw [hx] at hy
  refine callsIn_of_wp Tryz.func66 rfl trivial ?_ rfl
  simp only [Tryz.ntmps66, List.size_toArray, List.length_cons, List.length_nil, Nat.reduceAdd, Nat.reduceSub, Array.replicate_succ, Array.replicate_zero, List.push_toArray, List.append_toArray, List.nil_append, List.cons_append]
  gi_wp2
  refine ⟨fun h => (by cases h), ?_⟩
  refine hR.mono ?_
  rintro e W3 ⟨rfl, hst⟩
  gi_wp2
  refine bodyPost_ret (results_none rfl _ _ _) rfl ⟨⟨_, rfl⟩, ?_⟩
  exact hst.later (Chg.of_below hb2)
end Go.Proofs.YtidjljldhdckiaaGreatDoor
