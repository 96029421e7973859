/- Dyadic numbers: the one form, and how large they are. No walk here. -/
import Derived.Test.YtidjljldhdckiaaGreatDoorJWhole1
namespace Go.Proofs.YtidjljldhdckiaaGreatDoor

theorem toRat_owp (n k : Int) : (Dyadic.ofIntWithPrec n k).toRat = n * 2 ^ (-k) := Dyadic.toRat_ofIntWithPrec_eq_mul_two_pow
theorem rat2_ne : ((2 : Rat)) ≠ 0 := by decide

theorem owp_add (a b k : Int) : Dyadic.ofIntWithPrec a k + Dyadic.ofIntWithPrec b k = Dyadic.ofIntWithPrec (a + b) k := by
  rw [← Dyadic.toRat_inj, Dyadic.toRat_add, toRat_owp, toRat_owp, toRat_owp, Rat.intCast_add, Rat.add_mul]
theorem owp_mul (a b j k : Int) : Dyadic.ofIntWithPrec a j * Dyadic.ofIntWithPrec b k = Dyadic.ofIntWithPrec (a * b) (j + k) := by
  rw [← Dyadic.toRat_inj, Dyadic.toRat_mul, toRat_owp, toRat_owp, toRat_owp, Rat.intCast_mul, Int.neg_add, Rat.zpow_add rat2_ne]
  grind
theorem owp_shift (a : Int) (n : Nat) (k : Int) : Dyadic.ofIntWithPrec (a * 2 ^ n) (k + n) = Dyadic.ofIntWithPrec a k := by
  have := @Dyadic.ofIntWithPrec_shiftLeft_add a k n
  rwa [Int.shiftLeft_eq] at this
theorem owp_neg (a k : Int) : -Dyadic.ofIntWithPrec a k = Dyadic.ofIntWithPrec (-a) k := Dyadic.neg_ofIntWithPrec
theorem owp_zero (k : Int) : Dyadic.ofIntWithPrec 0 k = 0 := Dyadic.ofIntWithPrec_zero
theorem owp_eq_zero {n k : Int} : Dyadic.ofIntWithPrec n k = 0 ↔ n = 0 := by
  constructor
  · intro h
    unfold Dyadic.ofIntWithPrec at h
    split at h
    · assumption
    · cases h
  · rintro rfl; exact owp_zero k

/-- A number as it may be told. -/
abbrev Raw := Bool × List UInt8 × Int
def dval (x : Raw) : Dyadic := Dyadic.ofIntWithPrec (iv x.1 x.2.1) (-x.2.2)

/-- The one form's parts. -/
def dN : Dyadic → Int
  | .zero => 0
  | .ofOdd n _ _ => n
def dE : Dyadic → Int
  | .zero => 0
  | .ofOdd _ k _ => -k
def canon (d : Dyadic) : Raw := (sgnB (dN d), nt (dN d).natAbs, dE d)

theorem dval_canon (d : Dyadic) : dval (canon d) = d := by
  unfold dval canon
  simp only [iv_int]
  cases d with
  | zero => rfl
  | ofOdd n k hn => simp only [dN, dE, Int.neg_neg]; exact (Dyadic.ofOdd_eq_ofIntWithPrec).symm

theorem canon_inj {a b : Dyadic} (h : canon a = canon b) : a = b := by rw [← dval_canon a, h, dval_canon]

theorem dN_owp {n k : Int} (h : n ≠ 0) : dN (Dyadic.ofIntWithPrec n k) = n / 2 ^ n.trailingZeros ∧ dE (Dyadic.ofIntWithPrec n k) = n.trailingZeros - k := by
  unfold Dyadic.ofIntWithPrec
  rw [dif_neg h]
  simp only [dN, dE, Int.shiftRight_eq_div_pow]
  refine ⟨by simp [Int.natCast_pow], by omega⟩
theorem dN_zero : dN 0 = 0 := rfl
theorem dE_zero : dE 0 = 0 := rfl
theorem canon_zero : canon 0 = (false, [], 0) := rfl

/-- A number's sign. -/
def dsgn (d : Dyadic) : Int := sgnI' (dN d)
where sgnI' (n : Int) : Int := if n < 0 then -1 else if n = 0 then 0 else 1

/-- So many bits on both sides of the point hold it. -/
def Sm (B : Nat) (d : Dyadic) : Prop := ∃ m : Int, d = Dyadic.ofIntWithPrec m B ∧ m.natAbs < 2 ^ (2 * B)

theorem Sm.zero (B : Nat) : Sm B 0 := ⟨0, (owp_zero _).symm, Nat.pow_pos (by decide)⟩
theorem Sm.mono {A B : Nat} {d : Dyadic} (h : Sm A d) (hAB : A ≤ B) : Sm B d := by
  obtain ⟨m, rfl, hm⟩ := h
  obtain ⟨j, rfl⟩ : ∃ j, B = A + j := ⟨B - A, by omega⟩
  refine ⟨m * 2 ^ j, ?_, ?_⟩
  · rw [Int.natCast_add, owp_shift]
  · rw [Int.natAbs_mul, Int.natAbs_pow]
    have : m.natAbs * 2 ^ j < 2 ^ (2 * A) * 2 ^ j := Nat.mul_lt_mul_of_pos_right hm (Nat.pow_pos (by decide))
    rw [← Nat.pow_add] at this
    exact Nat.lt_of_lt_of_le this (Nat.pow_le_pow_right (by decide) (by omega))
theorem Sm.add {B : Nat} {a b : Dyadic} (ha : Sm B a) (hb : Sm B b) : Sm (B + 1) (a + b) := by
  obtain ⟨m, rfl, hm⟩ := ha
  obtain ⟨n, rfl, hn⟩ := hb
  refine ⟨(m + n) * 2 ^ 1, ?_, ?_⟩
  · rw [owp_add, Int.natCast_add]; exact (owp_shift _ 1 _).symm
  · rw [show 2 * (B + 1) = 2 * B + 2 by omega, Nat.pow_add]
    omega
theorem Sm.neg {B : Nat} {a : Dyadic} (ha : Sm B a) : Sm B (-a) := by
  obtain ⟨m, rfl, hm⟩ := ha
  exact ⟨-m, owp_neg _ _, by omega⟩
theorem Sm.sub {B : Nat} {a b : Dyadic} (ha : Sm B a) (hb : Sm B b) : Sm (B + 1) (a - b) := ha.add hb.neg
theorem Sm.mul {A B : Nat} {a b : Dyadic} (ha : Sm A a) (hb : Sm B b) : Sm (A + B) (a * b) := by
  obtain ⟨m, rfl, hm⟩ := ha
  obtain ⟨n, rfl, hn⟩ := hb
  refine ⟨m * n, ?_, ?_⟩
  · rw [owp_mul, Int.natCast_add]
  · rw [Int.natAbs_mul, Nat.mul_add, Nat.pow_add]
    exact Nat.mul_lt_mul'' hm hn

theorem tz_pow_le {n : Int} (h : n ≠ 0) : 2 ^ n.trailingZeros ≤ n.natAbs := by
  have hd := Int.two_pow_trailingZeros_dvd h
  have h2 : (2 ^ n.trailingZeros : Nat) ∣ n.natAbs := by
    have := Int.natAbs_dvd_natAbs.2 hd
    rwa [Int.natAbs_pow] at this
  exact Nat.le_of_dvd (by omega) h2

theorem Sm.parts {B : Nat} {d : Dyadic} (h : Sm B d) : (dN d).natAbs < 2 ^ (2 * B) ∧ -(B : Int) ≤ dE d ∧ dE d ≤ B := by
  obtain ⟨m, rfl, hm⟩ := h
  by_cases h0 : m = 0
  · subst h0
    rw [owp_zero, dN_zero, dE_zero]
    exact ⟨Nat.pow_pos (by decide), by omega, by omega⟩
  · obtain ⟨e1, e2⟩ := dN_owp (k := B) h0
    have h1 := tz_pow_le h0
    have h2 : m.trailingZeros < 2 * B := by
      rcases Nat.lt_or_ge m.trailingZeros (2 * B) with h | h
      · exact h
      · have := Nat.pow_le_pow_right (show 0 < 2 by decide) h; omega
    rw [e1, e2]
    refine ⟨?_, by omega, by omega⟩
    obtain ⟨q, hq⟩ := Int.two_pow_trailingZeros_dvd h0
    have hp : (2 : Int) ^ m.trailingZeros ≠ 0 := by
      have : ((2 ^ m.trailingZeros : Nat) : Int) ≠ 0 := by have := Nat.pow_pos (n := m.trailingZeros) (show 0 < 2 by decide); omega
      simpa [Int.natCast_pow] using this
    have e3 : m / 2 ^ m.trailingZeros = q := by
      conv => lhs; lhs; rw [hq]
      exact Int.mul_ediv_cancel_left _ hp
    rw [e3]
    have e4 : m.natAbs = 2 ^ m.trailingZeros * q.natAbs := by
      conv => lhs; rw [hq]
      rw [Int.natAbs_mul, Int.natAbs_pow]; rfl
    have := Nat.pow_pos (n := m.trailingZeros) (show 0 < 2 by decide)
    have : q.natAbs ≤ 2 ^ m.trailingZeros * q.natAbs := Nat.le_mul_of_pos_left _ this
    omega

/-- What may be reckoned with. -/
def Ok (x : Raw) : Prop := x.2.1.length ≤ 268435456 ∧ -268435456 ≤ x.2.2 ∧ x.2.2 ≤ 268435456

theorem len_of_bits {n k N : Nat} (h : n < 2 ^ k) (hN : k ≤ 8 * N) : (nt n).length ≤ N :=
  nt_length_le (Nat.lt_of_lt_of_le h (by rw [show (256 : Nat) = 2 ^ 8 by rfl, ← Nat.pow_mul]; exact Nat.pow_le_pow_right (by decide) hN))

theorem Sm.ok {B : Nat} {d : Dyadic} (h : Sm B d) (hB : B ≤ 268435456) : Ok (canon d) := by
  obtain ⟨h1, h2, h3⟩ := h.parts
  exact ⟨len_of_bits h1 (by omega), by show -268435456 ≤ dE d; omega, by show dE d ≤ 268435456; omega⟩

theorem Sm.raw {x : Raw} {B : Nat} (hl : 8 * x.2.1.length ≤ B) (h1 : -(B : Int) ≤ x.2.2) (h2 : x.2.2 ≤ B) : Sm (2 * B) (dval x) := by
  unfold dval
  obtain ⟨j, hj⟩ : ∃ j : Nat, x.2.2 + (2 * B : Nat) = j := ⟨(x.2.2 + (2 * B : Nat)).toNat, by omega⟩
  refine ⟨iv x.1 x.2.1 * 2 ^ j, ?_, ?_⟩
  · rw [← owp_shift (iv x.1 x.2.1) j (-x.2.2)]; congr 1; omega
  · rw [Int.natAbs_mul, Int.natAbs_pow, iv_abs]
    have hv := nv_lt x.2.1
    rw [show (256 : Nat) = 2 ^ 8 by rfl, ← Nat.pow_mul] at hv
    have : nv x.2.1 * 2 ^ j < 2 ^ (8 * x.2.1.length) * 2 ^ j := Nat.mul_lt_mul_of_pos_right hv (Nat.pow_pos (by decide))
    rw [← Nat.pow_add] at this
    exact Nat.lt_of_lt_of_le this (Nat.pow_le_pow_right (by decide) (by omega))
theorem Ok.sm {x : Raw} (h : Ok x) : Sm 4294967296 (dval x) := Sm.raw (B := 2147483648) (by have := h.1; omega) (by have := h.2.1; omega) (by have := h.2.2; omega)
end Go.Proofs.YtidjljldhdckiaaGreatDoor
