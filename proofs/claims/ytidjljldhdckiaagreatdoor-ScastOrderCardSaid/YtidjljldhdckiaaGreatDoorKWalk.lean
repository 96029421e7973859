/- Small facts that walks over blocks of one's own share. -/
import Derived.Test.YtidjljldhdckiaaGreatDoorJNat3
import Derived.Deep.RegionHeld3
import Derived.Deep.DrawnRows
namespace Go.Proofs.YtidjljldhdckiaaGreatDoor
open Go.RowKit

theorem wp_world {P : Program} {c : Code} {Q : Exit → Act → World → Prop} {a : Act} {W : World} (S : World → Prop) (hS : S W) (h : ∀ W', S W' → c.wp P Q a W') : c.wp P Q a W := h W hS
theorem calls_world {P : Program} {f : FuncId} {args : Array Value} {R : Ending → World → Prop} {W : World} (S : World → Prop) (hS : S W) (h : ∀ W', S W' → Calls P f args W' R) : Calls P f args W R := h W hS

theorem cell_set_ne {w : World} {p a : Addr} {u v : Value} (hne : a.block ≠ p.block) (h : w.cell? a = some v) : (w.setCell p u).cell? a = some v :=
  (World.cell?_of_block (w := w) (Below.heap_setCell _ _ _ _ hne)).trans h
theorem Blk.newAt (w : World) (t : TypeId) (cs : List Value) {b : Nat} (h : w.heap.size = b) : Blk (w.alloc (.cells cs.toArray t)) b t cs := by subst h; exact Blk.new w t cs
theorem bundrew {a w : World} (h : Below a.drew.heap.size a.drew w) : Below a.heap.size a w := ⟨h.os, h.tape, h.output, h.size, h.block⟩
theorem bnext {w W w1 : World} (h : Below w.heap.size w W) (k : Below W.heap.size W w1) : Below w.heap.size w w1 := h.trans (k.mono h.size)
theorem balloc {a w : World} {o : Obj} (h : Below (a.alloc o).heap.size (a.alloc o) w) : Below a.heap.size a w := bnext ((Below.refl _ _).alloc (Nat.le_refl _) _) h
theorem ballocd {a w : World} {o : Obj} (h : Below (a.drew.alloc o).heap.size (a.drew.alloc o) w) : Below a.heap.size a w := bundrew (balloc h)
theorem ballocx {a w : World} {o : Obj} (h : Below (a.alloc o).drew.heap.size (a.alloc o).drew w) : Below a.heap.size a w := balloc (bundrew h)
theorem cell_new {w : World} {a : Addr} {v : Value} {o : Obj} (h : w.cell? a = some v) : (w.alloc o).cell? a = some v := cell_later ((Below.refl _ _).alloc (Nat.le_refl _) _) h
theorem cell_drew {w : World} {a : Addr} {v : Value} (h : w.cell? a = some v) : w.drew.cell? a = some v := h

/-- The cells of a block that is known whole. -/
theorem At.of_blk {w : World} {b : Nat} {t : TypeId} {cs : List Value} (h : Blk w b t cs) : At w (some ⟨b, 0, none⟩) cs :=
  .inr ⟨b, 0, rfl, fun j _ => by rw [Nat.zero_add]; exact h.cell j⟩
theorem At.of_new (w : World) (t : TypeId) (cs : List Value) : At (w.alloc (.cells cs.toArray t)) (some ⟨w.heap.size, 0, none⟩) cs := At.of_blk (Blk.new w t cs)

theorem flat_get {α : Type} (f : α → List Value) (sz : Nat) (hf : ∀ x, (f x).length = sz) (xs : List α) (k i : Nat) (hk : k < xs.length) (hi : i < sz) :
    (xs.flatMap f)[k * sz + i]? = (f xs[k])[i]? := by
  induction xs generalizing k with
  | nil => simp at hk
  | cons x xs ih =>
    rw [List.flatMap_cons]
    cases k with
    | zero =>
      rw [Nat.zero_mul, Nat.zero_add, List.getElem?_append_left (by rw [hf]; exact hi)]; rfl
    | succ k =>
      have e : (k + 1) * sz + i = (f x).length + (k * sz + i) := by rw [hf, Nat.add_mul, Nat.one_mul]; omega
      rw [e, List.getElem?_append_right (by omega), Nat.add_sub_cancel_left, ih k (by simpa using hk)]
      rfl
theorem flat_length {α : Type} (f : α → List Value) (sz : Nat) (hf : ∀ x, (f x).length = sz) (xs : List α) : (xs.flatMap f).length = xs.length * sz := by
  induction xs with
  | nil => simp
  | cons x xs ih => rw [List.flatMap_cons, List.length_append, ih, hf, List.length_cons, Nat.add_mul, Nat.one_mul, Nat.add_comm]

/-- The cells of a slice's element. -/
theorem At.elem {α : Type} {f : α → List Value} {sz : Nat} (hf : ∀ x, (f x).length = sz) (hsz : 0 < sz) {W : World} {a : Option Addr} {xs : List α} (h : At W a (xs.flatMap f)) (k : Nat) (hk : k < xs.length) :
    ∃ b o, a = some ⟨b, o, none⟩ ∧ ∀ i, i < sz → W.cell? ⟨b, o + k * sz + i, none⟩ = (f xs[k])[i]? := by
  have hl := flat_length f sz hf xs
  have hb : ∀ i, i < sz → k * sz + i < xs.length * sz := by
    intro i hi
    have : (k + 1) * sz ≤ xs.length * sz := Nat.mul_le_mul_right _ hk
    rw [Nat.add_mul, Nat.one_mul] at this; omega
  have hne : xs.flatMap f ≠ [] := by
    intro h0; have := congrArg List.length h0; rw [hl] at this
    have := hb 0 hsz; simp at *; omega
  obtain ⟨b, o, ha, hc⟩ := h.get hne
  refine ⟨b, o, ha, fun i hi => ?_⟩
  rw [Nat.add_assoc, hc _ (by rw [hl]; exact hb i hi), flat_get f sz hf xs k i hk hi]
end Go.Proofs.YtidjljldhdckiaaGreatDoor
