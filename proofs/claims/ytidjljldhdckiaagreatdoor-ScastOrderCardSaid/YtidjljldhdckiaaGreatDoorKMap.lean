/- Maps from strings to whole numbers. -/
import Derived.Test.YtidjljldhdckiaaGreatDoorKCheck
import Derived.Maps.Own
import Derived.Maps.Views
import Derived.Maps.Keyed
import Derived.Maps.OwnSet
namespace Go.Proofs.YtidjljldhdckiaaGreatDoor
open Go.RowKit

theorem Tryz.zeroI (w : World) : (zeroValue 3).run Tryz.prog w = .ok (.int .i64 0) w := by
  obtain ⟨i0, hi, hz0, hz1, hz2⟩ := info_parts (show (Tryz.prog.info? 3).map (fun i => (i.zero, i.size, i.bytes)) = some (some (.int .i64 0), 1, 8) by kernel_rfl)
  simp [zeroValue, typeInfo, hi, hz0]

/-- The block is a map that holds, at each key, f of it. -/
def Mp (W : World) (b n : Nat) (f : List UInt8 → Nat) : Prop :=
  ∃ D : DataW Unit, W.ownsMap Tryz.prog 9 (plainElem Tryz.prog 3) b n D ∧ Maps.IsMap D ∧ ∀ l, D.atKey (.string l) (.lit (.int .i64 0)) = .lit (.int .i64 (f l : Int))

theorem Mp.made (w : World) : Mp (w.alloc (.map #[] 0)) w.heap.size 0 (fun _ => 0) :=
  ⟨.map [], World.ownsMap_made w _ _ _, ⟨_, rfl⟩, fun _ => rfl⟩
theorem Mp.lt {W : World} {b n : Nat} {f : List UInt8 → Nat} (h : Mp W b n f) : b < W.heap.size := by
  obtain ⟨D, h1, _⟩ := h
  exact h1.lt
theorem Mp.kept {W W' : World} {b n : Nat} {f : List UInt8 → Nat} {r : Option Nat} (h : Mp W b n f) (hg : W.grownBy W' r) (hne : some b ≠ r) : Mp W' b n f := by
  obtain ⟨D, h1, h2⟩ := h
  exact ⟨D, h1.kept hg hne, h2⟩
theorem Mp.below {W W' : World} {b n : Nat} {f : List UInt8 → Nat} (h : Mp W b n f) (hb : Below W.heap.size W W') : Mp W' b n f :=
  h.kept (r := none) ⟨hb.os, hb.tape, hb.output, hb.size, fun k hk _ => hb.block k hk⟩ (by simp)

theorem key_of (l : List UInt8) (hl : l.length ≤ maxLen) : keyOf Tryz.prog 9 (.string (bs l)) = some (.string l) := by
  have := WideMaps.keyOf_string_mk (P := Tryz.prog) Tryz.underlying9 (s := bs l) (by rw [bs_size]; exact hl)
  exact this

theorem Mp.look {W : World} {b n : Nat} {f : List UInt8 → Nat} (h : Mp W b n f) (l : List UInt8) (hl : l.length ≤ maxLen) :
    (Instr.lookup 62 (.map (some b)) (.string (bs l)) false).run Tryz.prog W = .ok (.int .i64 (f l : Int)) W := by
  obtain ⟨D, h1, h2, h3⟩ := h
  obtain ⟨c, hrun, hat, hwc⟩ := h1.lookup_int (t := 62) (e := 3) (q := .i64) (Maps.string_keyed Tryz.underlying9) Tryz.underlying62 Tryz.underlying3 (Tryz.zeroI W) (key_of l hl)
  rw [h3 l] at hat
  cases hat
  exact hrun

theorem Mp.put {W : World} {b n : Nat} {f : List UInt8 → Nat} (h : Mp W b n f) (hn : n < maxLen) (l : List UInt8) (hl : l.length ≤ maxLen) (i : Nat) (hi : i < 9223372036854775808) :
    ∃ w', (Instr.mapUpdate 62 (.map (some b)) (.string (bs l)) (.int .i64 (i : Int))).run Tryz.prog W = .ok () w' ∧ Mp w' b (n + 1) (fun l' => if l' = l then i else f l') ∧ W.grownBy w' (some b) := by
  obtain ⟨D, h1, h2, h3⟩ := h
  obtain ⟨w', hrun, ho, hg⟩ := h1.update (t := 62) (e := 3) (Maps.string_keyed Tryz.underlying9) Tryz.underlying62 hn (key_of l hl) (plainElem_int Tryz.underlying3 (show (Lit.int .i64 (i : Int)).wf = true by
      have h1 : IntKind.i64.min = -9223372036854775808 := rfl
      have h2 : IntKind.i64.max = 9223372036854775807 := rfl
      simp [Lit.wf]; omega))
  refine ⟨w', hrun, ⟨_, ho, ho.isMap, fun l' => ?_⟩, hg⟩
  show _ = DataW.lit (Lit.int .i64 ((if l' = l then i else f l' : Nat) : Int))
  by_cases e : l' = l
  · subst e
    rw [if_pos rfl, Maps.atKey_put_same h2 (by simp [WideAt.IsKeyLit])]
  · rw [if_neg e, Maps.atKey_put_other (by intro h; cases h; exact e rfl)]
    exact h3 l'
end Go.Proofs.YtidjljldhdckiaaGreatDoor
