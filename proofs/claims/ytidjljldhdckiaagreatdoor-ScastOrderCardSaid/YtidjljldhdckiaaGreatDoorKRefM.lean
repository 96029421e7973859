/- Bits of numbers: digits, differences, comparison, bytes, long division. No walk here. -/
import Derived.Test.YtidjljldhdckiaaGreatDoorJNat3
namespace Go.Proofs.YtidjljldhdckiaaGreatDoor

theorem tpos : 0 < 2 := by decide
theorem p2 (k : Nat) : 0 < 2 ^ k := Nat.pow_pos (by decide)

/-- The bit at a place. -/
def bd (v j : Nat) : Nat := v / 2 ^ j % 2

theorem bd_lt (v j : Nat) : bd v j < 2 := Nat.mod_lt _ tpos

theorem btop_zero {v k : Nat} (h : v < 2 ^ (k + 1)) (h0 : bd v k = 0) : v < 2 ^ k := by
  unfold bd at h0
  have h1 : v / 2 ^ k < 2 := by
    rw [Nat.div_lt_iff_lt_mul (p2 k)]; rw [Nat.pow_succ] at h; rwa [Nat.mul_comm] at h
  rw [Nat.mod_eq_of_lt h1] at h0
  rcases Nat.lt_or_ge v (2 ^ k) with h2 | h2
  · exact h2
  · have := Nat.div_pos h2 (p2 k); omega

theorem btop_pos {v k : Nat} (h0 : bd v k ≠ 0) : 2 ^ k ≤ v := by
  rcases Nat.lt_or_ge v (2 ^ k) with h2 | h2
  · exact absurd (by unfold bd; rw [Nat.div_eq_of_lt h2]) h0
  · exact h2

theorem bd_of_lt {v k j : Nat} (h : v < 2 ^ k) (hj : k ≤ j) : bd v j = 0 := by
  unfold bd
  rw [Nat.div_eq_of_lt (Nat.lt_of_lt_of_le h (Nat.pow_le_pow_right tpos hj))]

theorem bmod_succ (v i : Nat) : v % 2 ^ (i + 1) = v % 2 ^ i + 2 ^ i * bd v i := by
  unfold bd; rw [Nat.pow_succ, Nat.mod_mul]

theorem bits_ext {u v n : Nat} (hu : u < 2 ^ n) (hv : v < 2 ^ n) (h : ∀ j, j < n → bd u j = bd v j) : u = v := by
  have : ∀ k, k ≤ n → u % 2 ^ k = v % 2 ^ k := by
    intro k
    induction k with
    | zero => intro _; simp [Nat.mod_one]
    | succ k ih => intro hk; rw [bmod_succ, bmod_succ, ih (by omega), h k (by omega)]
  have := this n (Nat.le_refl _)
  rwa [Nat.mod_eq_of_lt hu, Nat.mod_eq_of_lt hv] at this

theorem bd_mod {v n j : Nat} (h : j < n) : bd (v % 2 ^ n) j = bd v j := by
  unfold bd
  obtain ⟨d, rfl⟩ : ∃ d, n = j + 1 + d := ⟨n - (j + 1), by omega⟩
  rw [Nat.pow_add, Nat.mod_mul, Nat.pow_succ, Nat.mod_mul]
  rw [show v % 2 ^ j + 2 ^ j * (v / 2 ^ j % 2) + 2 ^ j * 2 * (v / (2 ^ j * 2) % 2 ^ d) = v % 2 ^ j + 2 ^ j * ((v / 2 ^ j % 2) + 2 * (v / (2 ^ j * 2) % 2 ^ d)) by rw [Nat.mul_add, Nat.mul_assoc, Nat.add_assoc]]
  rw [Nat.add_mul_div_left _ _ (p2 j), Nat.div_eq_of_lt (Nat.mod_lt _ (p2 j)), Nat.zero_add, Nat.add_mul_mod_self_left, Nat.mod_mod]

/-- The borrow of a difference at a place. -/
def bb (v u i : Nat) : Nat := if v % 2 ^ i < u % 2 ^ i then 1 else 0

theorem bb_zero (v u : Nat) : bb v u 0 = 0 := by simp [bb, Nat.mod_one]

theorem bb_le (v u i : Nat) : bb v u i ≤ 1 := by unfold bb; split <;> omega

theorem bb_step (v u i : Nat) : bb v u (i + 1) = if bd v i < bd u i + bb v u i then 1 else 0 := by
  have h1 := Nat.mod_lt v (p2 i)
  have h2 := Nat.mod_lt u (p2 i)
  unfold bb
  rw [bmod_succ v, bmod_succ u]
  generalize bd v i = a
  generalize bd u i = b
  generalize v % 2 ^ i = r at *
  generalize u % 2 ^ i = s at *
  generalize 2 ^ i = M at *
  have key : (r + M * a < s + M * b) ↔ (a < b + if r < s then 1 else 0) := by
    rcases Nat.lt_trichotomy a b with h | h | h
    · have : M * (a + 1) ≤ M * b := Nat.mul_le_mul_left _ h
      rw [Nat.mul_add] at this
      constructor
      · intro _; split <;> omega
      · intro _; omega
    · subst h; split <;> omega
    · have : M * (b + 1) ≤ M * a := Nat.mul_le_mul_left _ h
      rw [Nat.mul_add] at this
      constructor
      · intro _; omega
      · intro h'; exfalso; revert h'; split <;> omega
  simp only [key]

theorem bb_digit (v u i : Nat) (hu : u ≤ v) : (bd v i + 2 - bd u i - bb v u i) % 2 = bd (v - u) i := by
  -- the digit of the difference
  have h1 := Nat.mod_lt v (p2 i)
  have h2 := Nat.mod_lt u (p2 i)
  have hM := p2 i
  have hb := bb_le v u i
  have du := bd_lt u i
  have e1 : v = v % 2 ^ i + 2 ^ i * (v / 2 ^ i) := (Nat.mod_add_div v _).symm
  have e2 : u = u % 2 ^ i + 2 ^ i * (u / 2 ^ i) := (Nat.mod_add_div u _).symm
  have e3 : (v - u) / 2 ^ i + bb v u i + u / 2 ^ i = v / 2 ^ i := by
    unfold bb
    generalize v % 2 ^ i = r at *
    generalize u % 2 ^ i = s at *
    generalize v / 2 ^ i = x at *
    generalize u / 2 ^ i = y at *
    generalize 2 ^ i = M at *
    have hxy : y ≤ x := by
      rcases Nat.lt_or_ge x y with h | h
      · have : M * (x + 1) ≤ M * y := Nat.mul_le_mul_left _ h
        rw [Nat.mul_add] at this; omega
      · exact h
    obtain ⟨d, rfl⟩ : ∃ d, x = y + d := ⟨x - y, by omega⟩
    split
    · rename_i hrs
      have hd : 1 ≤ d := by
        rcases Nat.eq_zero_or_pos d with h | h
        · subst h; simp at e1; omega
        · exact h
      obtain ⟨d', rfl⟩ : ∃ d', d = d' + 1 := ⟨d - 1, by omega⟩
      have : v - u = (M + r - s) + M * d' := by rw [Nat.mul_add, Nat.mul_add] at e1; omega
      rw [this, Nat.add_mul_div_left _ _ hM, Nat.div_eq_of_lt (by omega)]; omega
    · have : v - u = (r - s) + M * d := by rw [Nat.mul_add] at e1; omega
      rw [this, Nat.add_mul_div_left _ _ hM, Nat.div_eq_of_lt (by omega)]; omega
  unfold bd at *
  generalize (v - u) / 2 ^ i = q at *
  rw [← e3]
  generalize bb v u i = c at *
  generalize u / 2 ^ i = y at *
  have hW := tpos
  -- (q + c + y) % W + W - y % W - c ≡ q
  have e4 : ((q + c + y) % 2 + 2 - y % 2 - c) % 2 = q % 2 := by
    have a1 : y = y % 2 + 2 * (y / 2) := (Nat.mod_add_div y _).symm
    have a2 : (q + c + y) % 2 = (q + c + y % 2) % 2 := by
      rw [Nat.add_mod, Nat.add_mod (q + c) (y % 2), Nat.mod_mod]
    rw [a2]
    generalize y % 2 = z at *
    have a3 : q = q % 2 + 2 * (q / 2) := (Nat.mod_add_div q _).symm
    have a4 : (q + c + z) % 2 = (q % 2 + c + z) % 2 := by
      conv => lhs; rw [a3, show q % 2 + 2 * (q / 2) + c + z = (q % 2 + c + z) + 2 * (q / 2) by omega, Nat.add_mul_mod_self_left]
    rw [a4]
    have hq := Nat.mod_lt q hW
    generalize q % 2 = p at *
    rcases Nat.lt_or_ge (p + c + z) 2 with h | h
    · rw [Nat.mod_eq_of_lt h, show p + c + z + 2 - z - c = p + 2 by omega, Nat.add_mod_right, Nat.mod_eq_of_lt hq]
    · rcases Nat.lt_or_ge (p + c + z) (2 * 2) with h' | h'
      · have : (p + c + z) % 2 = p + c + z - 2 := by
          rw [Nat.mod_eq_sub_mod h, Nat.mod_eq_of_lt (by omega)]
        rw [this, show p + c + z - 2 + 2 - z - c = p by omega, Nat.mod_eq_of_lt hq]
      · exfalso; omega
  exact e4

theorem bd_lt_of {v u k : Nat} (h : v / 2 ^ (k + 1) = u / 2 ^ (k + 1)) (hd : bd v k < bd u k) : v < u := by
  unfold bd at hd
  have e1 := (Nat.mod_add_div (v / 2 ^ k) 2).symm
  have e2 := (Nat.mod_add_div (u / 2 ^ k) 2).symm
  rw [Nat.pow_succ, ← Nat.div_div_eq_div_mul, ← Nat.div_div_eq_div_mul] at h
  have : v / 2 ^ k < u / 2 ^ k := by rw [e1, e2, h]; omega
  exact Nat.lt_of_div_lt_div this

theorem bd_eq_of {v u k : Nat} (h : v / 2 ^ (k + 1) = u / 2 ^ (k + 1)) (hd : bd v k = bd u k) : v / 2 ^ k = u / 2 ^ k := by
  unfold bd at hd
  have e1 := (Nat.mod_add_div (v / 2 ^ k) 2).symm
  have e2 := (Nat.mod_add_div (u / 2 ^ k) 2).symm
  rw [Nat.pow_succ, ← Nat.div_div_eq_div_mul, ← Nat.div_div_eq_div_mul] at h
  rw [e1, e2, h, hd]

theorem bd_le (v j : Nat) : bd v j ≤ 1 := by have := bd_lt v j; omega
theorem blen_eq {v k : Nat} (h : v < 2 ^ (k + 1)) (h' : 2 ^ k ≤ v) : blen v = k + 1 := by
  have := blen_le h; have := blen_ge h'; omega
theorem blen_zero : blen 0 = 0 := rfl
theorem blen_mono {v u : Nat} (h : v ≤ u) : blen v ≤ blen u := blen_le (Nat.lt_of_le_of_lt h (blen_lt u))
theorem blen_two (v c : Nat) (hc : c ≤ 1) : blen (2 * v + c) ≤ blen v + 1 := by
  refine blen_le ?_
  have := blen_lt v
  rw [Nat.pow_succ]; omega

theorem pow256_two (q : Nat) : 256 ^ q = 2 ^ (8 * q) := by rw [show (256 : Nat) = 2 ^ 8 by rfl, ← Nat.pow_mul]

/-- What a bit does to a byte. -/
theorem byte_bit_at (v k : Nat) : v % 2 ^ (k + 1) / 256 ^ (k / 8) % 256 = v % 2 ^ k / 256 ^ (k / 8) % 256 + bd v k * 2 ^ (k % 8) ∧ v % 2 ^ k / 256 ^ (k / 8) % 256 + bd v k * 2 ^ (k % 8) ≤ 255 := by
  have e : 2 ^ k = 256 ^ (k / 8) * 2 ^ (k % 8) := by rw [pow256_two, ← Nat.pow_add]; congr 1; omega
  have hA := Nat.mod_lt v (p2 k)
  have hb := bd_le v k
  rw [bmod_succ]
  generalize v % 2 ^ k = A at *
  generalize bd v k = b at *
  have hr : 2 ^ (k % 8) ≤ 128 := Nat.pow_le_pow_right (i := k % 8) (j := 7) (by decide) (by omega)
  have hp : 0 < 256 ^ (k / 8) := Nat.pow_pos (by decide)
  have hq : A / 256 ^ (k / 8) < 2 ^ (k % 8) := Nat.div_lt_of_lt_mul (by rw [← e]; exact hA)
  rw [e, Nat.mul_assoc, Nat.add_mul_div_left _ _ hp]
  generalize A / 256 ^ (k / 8) = x at *
  generalize 2 ^ (k % 8) = y at *
  have hyb : y * b = b * y := Nat.mul_comm _ _
  have : b * y ≤ 1 * y := Nat.mul_le_mul_right _ hb
  rw [hyb, Nat.mod_eq_of_lt (show x < 256 by omega), Nat.mod_eq_of_lt (show x + b * y < 256 by omega)]
  omega
theorem byte_bit_other (v k q : Nat) (hq : q ≠ k / 8) : v % 2 ^ (k + 1) / 256 ^ q % 256 = v % 2 ^ k / 256 ^ q % 256 := by
  rcases Nat.lt_or_ge q (k / 8) with h | h
  · rw [bmod_succ]
    have e : 2 ^ k = 256 ^ q * (256 * 2 ^ (k - 8 * (q + 1))) := by
      rw [show 256 ^ q * (256 * 2 ^ (k - 8 * (q + 1))) = 256 ^ (q + 1) * 2 ^ (k - 8 * (q + 1)) by rw [Nat.pow_succ, Nat.mul_assoc], pow256_two, ← Nat.pow_add]; congr 1; omega
    have e2 : 2 ^ k * bd v k = 256 ^ q * (256 * (2 ^ (k - 8 * (q + 1)) * bd v k)) := by rw [e]; simp only [Nat.mul_assoc]
    rw [e2, Nat.add_mul_div_left _ _ (Nat.pow_pos (by decide)), Nat.add_mul_mod_self_left]
  · have h1 : 2 ^ (k + 1) ≤ 256 ^ q := by rw [pow256_two]; exact Nat.pow_le_pow_right (by decide) (by omega)
    have h2 : 2 ^ k ≤ 2 ^ (k + 1) := Nat.pow_le_pow_right (by decide) (by omega)
    rw [Nat.div_eq_of_lt (Nat.lt_of_lt_of_le (Nat.mod_lt v (p2 (k + 1))) h1), Nat.div_eq_of_lt (Nat.lt_of_lt_of_le (Nat.mod_lt v (p2 k)) (Nat.le_trans h2 h1))]

/-- A byte of what bytes say. -/
theorem nv_byte (l : List UInt8) (j : Nat) (hj : j < l.length) : nv l / 256 ^ j % 256 = l[l.length - 1 - j].toNat := by
  have e := nv_append (l.take (l.length - j)) (l.drop (l.length - j))
  rw [List.take_append_drop, List.length_drop, show l.length - (l.length - j) = j by omega] at e
  have h1 : nv (l.drop (l.length - j)) < 256 ^ j := by
    have := nv_lt (l.drop (l.length - j))
    rwa [List.length_drop, show l.length - (l.length - j) = j by omega] at this
  have hp : 0 < 256 ^ j := Nat.pow_pos (by decide)
  rw [e, Nat.add_comm, Nat.add_mul_div_right _ _ hp, Nat.div_eq_of_lt h1, Nat.zero_add]
  have e2 : l.take (l.length - j) = l.take (l.length - 1 - j) ++ [l[l.length - 1 - j]] := by
    have := List.take_succ_eq_append_getElem (i := l.length - 1 - j) (l := l) (by omega)
    rw [show l.length - j = l.length - 1 - j + 1 by omega]; exact this
  rw [e2, nv_append]
  have e3 : nv [l[l.length - 1 - j]] = (l[l.length - 1 - j]).toNat := by rw [nv_cons]; simp [nv_nil]
  rw [e3]
  have := (l[l.length - 1 - j]).toNat_lt
  simp only [List.length_singleton, Nat.pow_one]
  rw [Nat.mul_add_mod_of_lt] <;> omega
theorem nv_bit (l : List UInt8) (j k : Nat) (hj : j < l.length) (hk : k < 8) : l[l.length - 1 - j].toNat / 2 ^ k % 2 = bd (nv l) (8 * j + k) := by
  rw [← nv_byte l j hj]
  unfold bd
  rw [Nat.pow_add, ← Nat.div_div_eq_div_mul, ← pow256_two]
  generalize nv l / 256 ^ j = x
  have e : 256 = 2 ^ k * 2 ^ (8 - k) := by rw [← Nat.pow_add, show k + (8 - k) = 8 by omega]
  rw [e, Nat.mod_mul_right_div_self, Nat.mod_mod_of_dvd]
  exact ⟨2 ^ (7 - k), by rw [show 8 - k = 7 - k + 1 by omega, Nat.pow_succ, Nat.mul_comm]⟩
theorem nv_bits (l : List UInt8) : nv l < 2 ^ (8 * l.length) := by rw [← pow256_two]; exact nv_lt l

/-- A step of the long division. -/
theorem long_step (v u i : Nat) (hu : 0 < u) : ∃ r c q, v / 2 ^ (i + 1) % u = r ∧ bd v i = c ∧ v / 2 ^ (i + 1) / u = q ∧ v / 2 ^ i % u = (if u ≤ 2 * r + c then 2 * r + c - u else 2 * r + c) ∧ v / 2 ^ i / u = 2 * q + (if u ≤ 2 * r + c then 1 else 0) := by
  refine ⟨_, _, _, rfl, rfl, rfl, ?_⟩
  have e : v / 2 ^ i = 2 * (v / 2 ^ (i + 1)) + bd v i := by
    unfold bd; rw [Nat.pow_succ, ← Nat.div_div_eq_div_mul]; omega
  have hb := bd_le v i
  rw [e]
  generalize v / 2 ^ (i + 1) = x
  generalize bd v i = c at *
  have h1 := Nat.mod_lt x hu
  have h2 := Nat.mod_add_div x u
  generalize hr : x % u = r at *
  generalize hq : x / u = q at *
  have e2 : 2 * x + c = 2 * r + c + u * (2 * q) := by
    rw [← h2, show u * (2 * q) = 2 * (u * q) by rw [Nat.mul_left_comm]]; omega
  rw [e2, Nat.add_mul_mod_self_left, Nat.add_mul_div_left _ _ hu]
  by_cases h : u ≤ 2 * r + c
  · rw [if_pos h, if_pos h]
    have e3 : 2 * r + c = (2 * r + c - u) + u * 1 := by omega
    rw [e3, Nat.add_mul_mod_self_left, Nat.add_mul_div_left _ _ hu, Nat.mod_eq_of_lt (by omega), Nat.div_eq_of_lt (by omega)]
    omega
  · rw [if_neg h, if_neg h, Nat.mod_eq_of_lt (by omega), Nat.div_eq_of_lt (by omega)]
    omega
/-- The quotient's bits. -/
theorem long_bit (v u i : Nat) : bd (v / u) i = v / 2 ^ i / u % 2 := by
  unfold bd
  rw [Nat.div_div_eq_div_mul, Nat.div_div_eq_div_mul, Nat.mul_comm]
end Go.Proofs.YtidjljldhdckiaaGreatDoor
