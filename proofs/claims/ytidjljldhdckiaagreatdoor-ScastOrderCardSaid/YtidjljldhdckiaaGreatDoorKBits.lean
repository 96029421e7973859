/- math/bits: what the calls answer (the walks are the guide's own, turned to this program). -/
import Derived.Test.YtidjljldhdckiaaGreatDoorKBase
import Derived.Test.YtidjljldhdckiaaGreatDoorLen64
import Derived.Lib.BitFns
import Derived.Lib.ItoaNum
import Derived.Lib.TrailingZeros
import Derived.Lib.Mul64
import Derived.Laws.Bits64b
namespace Go.Proofs.YtidjljldhdckiaaGreatDoor
open Go.RowKit

theorem add64_run (x y c : Nat) (hx : x < WW) (hy : y < WW) (hc : c ≤ 1) (w : World) :
    (callFunc 132 #[.int .u64 x, .int .u64 y, .int .u64 c]).run Tryz.prog w =
      .ok (.value (.tuple #[.int .u64 (((x + y + c) % WW : Nat) : Int), .int .u64 (((x + y + c) / WW : Nat) : Int)])) w := by
  rw [WW_def] at *
  rw [run_callFunc_extern Tryz.func132 (by kernel_rfl) (by kernel_rfl) (by kernel_rfl) (e := add64Entry) (by kernel_rfl), run_add64 x y c (by omega) (by omega) (by omega) (by omega)]
  simp only [Result.andThen]
  congr 5 <;> omega

def sub64Ent : Array Value → Sem Value := fun args => do
  let (x, y, b) ← Extern.MathBitsCarry.three "Sub64" args
  pure (Extern.MathBitsCarry.pair ((x + Extern.MathBitsCarry.m64 - y - b) % Extern.MathBitsCarry.m64) (if x < y + b then 1 else 0))
theorem run_sub64e (x y b : Nat) (hb : b ≤ 1) (w : World) :
    (sub64Ent #[.int .u64 x, .int .u64 y, .int .u64 b]).run Tryz.prog w =
      .ok (.tuple #[.int .u64 (((x + 18446744073709551616 - y - b) % 18446744073709551616 : Nat) : Int), .int .u64 ((if x < y + b then 1 else 0 : Nat) : Int)]) w := by
  have : b = 0 ∨ b = 1 := by omega
  rcases this with rfl | rfl <;> rfl
theorem sub64_run (x y b : Nat) (hb : b ≤ 1) (w : World) :
    (callFunc 133 #[.int .u64 x, .int .u64 y, .int .u64 b]).run Tryz.prog w =
      .ok (.value (.tuple #[.int .u64 (((x + WW - y - b) % WW : Nat) : Int), .int .u64 ((if x < y + b then 1 else 0 : Nat) : Int)])) w := by
  rw [run_callFunc_extern Tryz.func133 (by kernel_rfl) (by kernel_rfl) (by kernel_rfl) (e := sub64Ent) (by kernel_rfl), run_sub64e x y b hb]
  rfl

namespace MulX
theorem maskN (a : Nat) (ha : a < 18446744073709551616) : bits .and .u64 (a : Int) 4294967295 = ((a % 4294967296 : Nat) : Int) := by
  have h := bits_and_u64_nat a 4294967295 ha (by omega)
  have e : a &&& 4294967295 = a % 4294967296 := Nat.and_two_pow_sub_one_eq_mod a 32
  rw [e] at h
  exact h
theorem divN (a : Nat) : (a : Int) / 4294967296 = ((a / 4294967296 : Nat) : Int) := by omega
theorem mulN (a b : Nat) : (a : Int) * (b : Int) = ((a * b : Nat) : Int) := (Int.natCast_mul a b).symm
theorem addN (a b : Nat) : (a : Int) + (b : Int) = ((a + b : Nat) : Int) := (Int.natCast_add a b).symm
theorem wrapN (a : Nat) (ha : a < 18446744073709551616) : IntKind.u64.wrap (a : Int) = (a : Int) := by rw [IntKind.wrap_u64]; omega
theorem wrapM (a : Nat) : IntKind.u64.wrap (a : Int) = ((a % 18446744073709551616 : Nat) : Int) := by rw [IntKind.wrap_u64]; omega
end MulX

set_option maxHeartbeats 1000000 in
theorem mul64_any (x y : Nat) (hx : x < WW) (hy : y < WW) (w : World) :
    Calls Tryz.prog 140 #[.int .u64 x, .int .u64 y] w fun e w' => e = .returned (.tuple #[.int .u64 ((x * y / WW : Nat) : Int), .int .u64 ((x * y % WW : Nat) : Int)]) ∧ w = w' := by
  rw [WW_def] at *
  obtain ⟨bd, bt, bw, hhi⟩ := Lib.mul64_hi x y hx hy
  have ba := Lib.half_mul_le (a := x / 4294967296) (b := y / 4294967296) (by omega) (by omega)
  have bb := Lib.half_mul_le (a := x / 4294967296) (b := y % 4294967296) (by omega) (by omega)
  have bc := Lib.half_mul_le (a := x % 4294967296) (b := y / 4294967296) (by omega) (by omega)
  have ba' : x / 4294967296 * (y / 4294967296) < 18446744073709551616 := by omega
  have bb' : x / 4294967296 * (y % 4294967296) < 18446744073709551616 := by omega
  have bc' : x % 4294967296 * (y / 4294967296) < 18446744073709551616 := by omega
  have bh1 : x / 4294967296 * (y / 4294967296) + (x / 4294967296 * (y % 4294967296) + x % 4294967296 * (y % 4294967296) / 4294967296) / 4294967296 < 18446744073709551616 := by omega
  have bh : x / 4294967296 * (y / 4294967296) + (x / 4294967296 * (y % 4294967296) + x % 4294967296 * (y % 4294967296) / 4294967296) / 4294967296 + ((x / 4294967296 * (y % 4294967296) + x % 4294967296 * (y % 4294967296) / 4294967296) % 4294967296 + x % 4294967296 * (y / 4294967296)) / 4294967296 < 18446744073709551616 := by omega
  go_enter Tryz.func140, Tryz.ntmps140
  go_wp2
  simp only [MulX.maskN x hx, MulX.maskN y hy, MulX.divN, MulX.mulN, MulX.addN, MulX.wrapN _ bd, MulX.wrapN _ bb', MulX.wrapN _ bt, MulX.maskN _ bt, MulX.wrapN _ bc', MulX.wrapN _ bw, MulX.wrapN _ ba', MulX.wrapN _ bh1, MulX.wrapN _ bh, MulX.wrapM (x * y)]
  rw [hhi]
  go_ret2
  exact ⟨rfl, rfl⟩

/-- How many bits a number has. -/
def blen (v : Nat) : Nat := if v = 0 then 0 else Nat.log2 v + 1

theorem blen_lt (v : Nat) : v < 2 ^ blen v := by
  unfold blen; split
  · subst v; simp
  · exact Nat.lt_log2_self
theorem blen_le {v k : Nat} (h : v < 2 ^ k) : blen v ≤ k := by
  unfold blen; split
  · omega
  · rename_i h0; have := (Nat.log2_lt h0).2 h; omega
theorem blen_pos {v : Nat} (h : 0 < v) : 0 < blen v := by unfold blen; split <;> omega
theorem blen_ge {v k : Nat} (h : 2 ^ k ≤ v) : k < blen v := by
  rcases Nat.lt_or_ge k (blen v) with h1 | h1
  · exact h1
  · have := blen_lt v
    have := Nat.pow_le_pow_right (show 0 < 2 by decide) h1
    omega

theorem bitLen_blen (x : Nat) (h : x < 18446744073709551616) : Lib.bitLen x = blen x := by
  by_cases h0 : x = 0
  · subst h0; rfl
  · obtain ⟨h1, h2, h3⟩ := Lib.bitLenAux_bounds 64 x h h0
    have e : Lib.bitLen x = Lib.bitLenAux 64 x := rfl
    rw [e]
    have a := blen_le h3
    have b := blen_ge h2
    omega

theorem len64_any (x : Nat) (w : World) (h : x < WW) :
    Calls Tryz.prog 141 #[.int .u64 x] w fun e w' => e = .returned (.int .i64 (blen x)) ∧ w = w' := by
  rw [WW_def] at h
  refine (len64_lib x w (by omega) (by omega)).mono ?_
  rintro e w' ⟨rfl, rfl⟩
  rw [Int.toNat_natCast, bitLen_blen x h]
  exact ⟨rfl, rfl⟩

theorem lz64_any (x : Nat) (w : World) (h : x < WW) :
    Calls Tryz.prog 131 #[.int .u64 x] w fun e w' => e = .returned (.int .i64 (64 - blen x : Int)) ∧ w = w' := by
  have hb : blen x ≤ 64 := blen_le (by rw [WW_two] at h; exact h)
  have Hx := Lib.hid h; clear h
  go_enter Tryz.func131, Tryz.ntmps131
  go_wp2_with (go_at_call 141; refine (len64_any _ _ Hx.out).mono ?_; rintro e w' ⟨rfl, rfl⟩)
  go_ret
  exact ⟨rfl, rfl⟩

/-- The table of math/bits in its variable. -/
def Tab (w : World) : Prop := ∀ j, j < Lib.deBruijn64tab.length → w.cell? ⟨0, j, none⟩ = some (.int .u8 (Lib.deBruijn64tab.getD j 0))

theorem Tab.below {w w' : World} (h : Tab w) (hb : Below w.heap.size w w') : Tab w' := fun j hj => cell_later hb (h j hj)
theorem Tab.grown {w w' : World} {r : Option Nat} (h : Tab w) (hb : w.grownBy w' r) (hr : ∀ k, r = some k → 0 < k) : Tab w' :=
  fun j hj => hb.cell (h j hj) (fun e => by have := hr _ e.symm; simp at this)

set_option maxHeartbeats 1000000 in
theorem tz64_core (x k idx : Nat) (w : World) (hx0 : ((x : Int) == 0) = false)
    (key : IntKind.u64.wrap (bits BinOp.and IntKind.u64 (x : Int) (IntKind.u64.wrap (-(x : Int))) * 285870213051353865) / 288230376151711744 = (idx : Int))
    (hi : idx < 64) (hk : k < 64) (hcell : w.cell? ⟨0, idx, none⟩ = some (.int .u8 k)) :
    Calls Tryz.prog 90 #[.int .u64 x] w fun e w' => e = .returned (.int .i64 k) ∧ w = w' := by
  go_enter Tryz.func90, Tryz.ntmps90
  go_wp2_with (simp only [key])
  go_ret
  exact ⟨rfl, rfl⟩

theorem tz64_key (x a : Nat) (hx : x < 18446744073709551616) (hlow : x &&& (18446744073709551616 - x) = a) (hx0 : x ≠ 0) :
    IntKind.u64.wrap (bits BinOp.and IntKind.u64 (x : Int) (IntKind.u64.wrap (-(x : Int))) * 285870213051353865) / 288230376151711744 = ((a * 285870213051353865 % 18446744073709551616 / 288230376151711744 : Nat) : Int) := by
  have e1 : IntKind.u64.wrap (-(x : Int)) = ((18446744073709551616 - x : Nat) : Int) := by rw [IntKind.wrap_u64]; omega
  rw [e1, bits_and_u64_nat x _ hx (by omega), hlow, IntKind.wrap_u64]
  omega

theorem tz64_any (x : Nat) (hx : x < WW) (hx0 : x ≠ 0) (w : World) (hT : Tab w) :
    Calls Tryz.prog 90 #[.int .u64 x] w fun e w' => e = .returned (.int .i64 (Lib.ctz 64 x)) ∧ w = w' := by
  rw [WW_def] at hx
  obtain ⟨hlow, hk⟩ := Lib.lowest_bit 64 x hx0 hx
  obtain ⟨hi, htab⟩ := Lib.deBruijn64_at _ hk
  have hcell := hT _ hi
  rw [htab] at hcell
  exact tz64_core x _ _ w (by simp; omega) (tz64_key x _ hx hlow hx0) hi hk hcell

theorem ctz_spec (x : Nat) (hx : x < WW) (hx0 : x ≠ 0) : ∃ m, x = 2 ^ Lib.ctz 64 x * (2 * m + 1) ∧ Lib.ctz 64 x < 64 := by
  have := Lib.ctzFrom_spec 64 x (by omega) (by rw [WW_two] at hx; exact hx)
  unfold Lib.ctz; rw [if_neg hx0]; exact this
end Go.Proofs.YtidjljldhdckiaaGreatDoor
