/- Small facts on worlds that the walks share. -/
import Derived.Test.YtidjljldhdckiaaGreatDoorProg
import Derived.Test.YtidjljldhdckiaaGreatDoorJNatM
import Derived.WalkKit
import Derived.WalkSpells
import Derived.WalkLawsBesides
import Derived.Lib.Hide
import Derived.BigQuiet
import Derived.Deep.QuietTactic
import Derived.Deep.LoopGhost
import Derived.Deep.DeepFit
namespace Go.Proofs.YtidjljldhdckiaaGreatDoor
open Go.RowKit

/-- A block of cells, whole, none of it frozen. -/
def Blk (w : World) (b : Nat) (t : TypeId) (cs : List Value) : Prop := w.heap[b]? = some (.cells cs.toArray t (0, 0))

theorem Blk.lt {w : World} {b : Nat} {t : TypeId} {cs : List Value} (h : Blk w b t cs) : b < w.heap.size := lt_of_block h
theorem Blk.cell {w : World} {b : Nat} {t : TypeId} {cs : List Value} (h : Blk w b t cs) (j : Nat) : w.cell? ⟨b, j, none⟩ = cs[j]? := by
  unfold Blk at h; simp [World.cell?, h]
theorem Blk.free {w : World} {b : Nat} {t : TypeId} {cs : List Value} (h : Blk w b t cs) (j : Nat) : w.frozen? ⟨b, j, none⟩ = false := by
  unfold Blk at h; simp [World.frozen?, h]
theorem Blk.set {w : World} {b : Nat} {t : TypeId} {cs : List Value} (h : Blk w b t cs) (j : Nat) (v : Value) : Blk (w.setCell ⟨b, j, none⟩ v) b t (cs.set j v) := by
  unfold Blk at *
  simp [World.setCell, Array.getElem?_modify, h]
theorem Blk.set_other {w : World} {b : Nat} {t : TypeId} {cs : List Value} (h : Blk w b t cs) (a : Addr) (hne : a.block ≠ b) (v : Value) : Blk (w.setCell a v) b t cs := by
  unfold Blk at *
  rw [Below.heap_setCell _ _ _ _ (fun e => hne e.symm)]; exact h
theorem Blk.drew {w : World} {b : Nat} {t : TypeId} {cs : List Value} (h : Blk w b t cs) : Blk w.drew b t cs := h
theorem Blk.drewN {w : World} {b : Nat} {t : TypeId} {cs : List Value} (h : Blk w b t cs) (n : Nat) : Blk (w.drewN n) b t cs := h
theorem Blk.alloc {w : World} {b : Nat} {t : TypeId} {cs : List Value} (h : Blk w b t cs) (o : Obj) : Blk (w.alloc o) b t cs := by
  have := h.lt
  unfold Blk at *
  rw [Below.heap_alloc _ _ _ this]; exact h
theorem Blk.new (w : World) (t : TypeId) (cs : List Value) : Blk (w.alloc (.cells cs.toArray t)) w.heap.size t cs := heap_alloc_new w _
theorem Blk.below {w w' : World} {b : Nat} {t : TypeId} {cs : List Value} (h : Blk w b t cs) (hb : Below w.heap.size w w') : Blk w' b t cs := by
  have := h.lt
  unfold Blk at *
  rw [hb.block b this]; exact h
theorem Blk.grown {w w' : World} {b : Nat} {t : TypeId} {cs : List Value} {r : Option Nat} (h : Blk w b t cs) (hb : w.grownBy w' r) (hne : some b ≠ r) : Blk w' b t cs := by
  have := h.lt
  unfold Blk at *
  rw [hb.block b this hne]; exact h

theorem grownBy_set {w : World} {a : Addr} (b : Nat) (hb : a.block = b) (v : Value) : w.grownBy (w.setCell a v) (some b) :=
  ⟨rfl, rfl, rfl, by simp [World.setCell], fun k _ hk => Below.heap_setCell _ _ _ _ (fun e => hk (by rw [e, hb]))⟩
theorem grownBy_trans {a b c : World} {r : Option Nat} (h : a.grownBy b r) (k : b.grownBy c r) : a.grownBy c r :=
  ⟨k.os.trans h.os, k.tape.trans h.tape, k.output.trans h.output, Nat.le_trans h.size k.size, fun i hi hn => (k.block i (Nat.lt_of_lt_of_le hi h.size) hn).trans (h.block i hi hn)⟩
theorem grownBy_drew {w w' : World} {r : Option Nat} (h : w.grownBy w' r) : w.grownBy w'.drew r := ⟨h.os, h.tape, h.output, h.size, h.block⟩
theorem grownBy_drewN {w w' : World} {r : Option Nat} (h : w.grownBy w' r) (n : Nat) : w.grownBy (w'.drewN n) r := ⟨h.os, h.tape, h.output, h.size, h.block⟩
theorem grownBy_refl (w : World) (r : Option Nat) : w.grownBy w r := ⟨rfl, rfl, rfl, Nat.le_refl _, fun _ _ _ => rfl⟩
theorem grownBy_cell {w w' : World} {r : Option Nat} (hg : w.grownBy w' r) {a : Addr} {v : Value} (h : w.cell? a = some v) (hne : some a.block ≠ r) : w'.cell? a = some v := hg.cell h hne

/-- A number in a limb's cell. -/
def u64 (n : Nat) : Value := .int .u64 (n : Int)

/-- So many limbs of a number stand in memory from a cell on. -/
def LimAt (w : World) (b o n v : Nat) : Prop := ∀ j, j < n → w.cell? ⟨b, o + j, none⟩ = some (.int .u64 (dg v j : Int))

theorem LimAt.less {w : World} {b o n m v : Nat} (h : LimAt w b o n v) (hm : m ≤ n) : LimAt w b o m v := fun j hj => h j (by omega)
theorem LimAt.below {w w' : World} {b o n v : Nat} (h : LimAt w b o n v) (hb : Below w.heap.size w w') : LimAt w' b o n v := fun j hj => cell_later hb (h j hj)
theorem LimAt.grown {w w' : World} {b o n v : Nat} {r : Option Nat} (h : LimAt w b o n v) (hb : w.grownBy w' r) (hne : some b ≠ r) : LimAt w' b o n v := fun j hj => hb.cell (h j hj) hne

/-- So many limbs, by a function. -/
def uls (n : Nat) (f : Nat → Nat) : List Value := (List.range n).map fun j => .int .u64 (f j : Int)
theorem uls_length (n : Nat) (f : Nat → Nat) : (uls n f).length = n := by simp [uls]
theorem uls_get (n : Nat) (f : Nat → Nat) (j : Nat) (h : j < n) : (uls n f)[j]? = some (.int .u64 (f j : Int)) := by
  simp [uls, List.getElem?_range h]
theorem uls_congr {n : Nat} {f g : Nat → Nat} (h : ∀ j, j < n → f j = g j) : uls n f = uls n g := by
  unfold uls
  refine List.map_congr_left fun j hj => ?_
  rw [h j (by simpa using hj)]
theorem uls_set (n : Nat) (f : Nat → Nat) (i x : Nat) : (uls n f).set i (.int .u64 (x : Int)) = uls n (fun j => if j = i then x else f j) := by
  apply List.ext_getElem?
  intro j
  rw [List.getElem?_set, uls_length]
  by_cases h : j < n
  · rw [uls_get _ _ _ h, uls_get _ _ _ h]
    by_cases e : i = j
    · subst e; simp [h]
    · simp [e, Ne.symm e]
  · by_cases e : i = j
    · subst e; simp [uls, h]
    · simp [e, uls, h]
end Go.Proofs.YtidjljldhdckiaaGreatDoor
