/- Plain facts on numbers written in digits to the base 2^64 and on bytes, the highest first. No program here. -/
namespace Go.Proofs.YtidjljldhdckiaaGreatDoor

/-- The base of the limbs. -/
def WW : Nat := 18446744073709551616
theorem WW_def : WW = 18446744073709551616 := rfl
theorem WW_pos : 0 < WW := by decide
theorem WW_two : WW = 2 ^ 64 := by decide
theorem WWp_pos (k : Nat) : 0 < WW ^ k := Nat.pow_pos WW_pos

/-- How many limbs a number has. -/
def ln (v : Nat) : Nat := if v = 0 then 0 else Nat.log2 v / 64 + 1

theorem WWp_two (k : Nat) : WW ^ k = 2 ^ (64 * k) := by rw [WW_two, ← Nat.pow_mul]

theorem lt_ln (v : Nat) : v < WW ^ ln v := by
  unfold ln; split
  · subst v; simp
  · rename_i h
    rw [WWp_two]
    refine Nat.lt_of_lt_of_le (Nat.lt_log2_self (n := v)) (Nat.pow_le_pow_right (by decide) ?_)
    omega

theorem ln_le {v n : Nat} (h : v < WW ^ n) : ln v ≤ n := by
  unfold ln; split
  · omega
  · rename_i h0
    rw [WWp_two] at h
    have := (Nat.log2_lt h0).2 h
    omega

theorem ln_eq {v n : Nat} (h : v < WW ^ (n + 1)) (h' : WW ^ n ≤ v) : ln v = n + 1 := by
  have h1 := ln_le h
  have h2 : ¬ ln v ≤ n := fun hle => by
    have := lt_ln v
    have := Nat.pow_le_pow_right WW_pos hle
    omega
  omega

theorem ln_zero : ln 0 = 0 := rfl
theorem ln_pos {v : Nat} (h : 0 < v) : 0 < ln v := by unfold ln; split <;> omega

/-- The digit at a place. -/
def dg (v j : Nat) : Nat := v / WW ^ j % WW
theorem dg_lt (v j : Nat) : dg v j < WW := Nat.mod_lt _ WW_pos

theorem top_zero {v k : Nat} (h : v < WW ^ (k + 1)) (h0 : dg v k = 0) : v < WW ^ k := by
  unfold dg at h0
  have h1 : v / WW ^ k < WW := by
    rw [Nat.div_lt_iff_lt_mul (WWp_pos k)]; rw [Nat.pow_succ] at h; rwa [Nat.mul_comm] at h
  rw [Nat.mod_eq_of_lt h1] at h0
  rcases Nat.lt_or_ge v (WW ^ k) with h2 | h2
  · exact h2
  · have := Nat.div_pos h2 (WWp_pos k); omega

theorem top_pos {v k : Nat} (h0 : dg v k ≠ 0) : WW ^ k ≤ v := by
  rcases Nat.lt_or_ge v (WW ^ k) with h2 | h2
  · exact absurd (by unfold dg; rw [Nat.div_eq_of_lt h2]; simp) h0
  · exact h2

theorem dg_of_lt {v k j : Nat} (h : v < WW ^ k) (hj : k ≤ j) : dg v j = 0 := by
  unfold dg
  rw [Nat.div_eq_of_lt (Nat.lt_of_lt_of_le h (Nat.pow_le_pow_right WW_pos hj))]; simp

theorem mod_succ (v i : Nat) : v % WW ^ (i + 1) = v % WW ^ i + WW ^ i * dg v i := by
  unfold dg; rw [Nat.pow_succ, Nat.mod_mul]

theorem digits_ext {u v n : Nat} (hu : u < WW ^ n) (hv : v < WW ^ n) (h : ∀ j, j < n → dg u j = dg v j) : u = v := by
  have : ∀ k, k ≤ n → u % WW ^ k = v % WW ^ k := by
    intro k
    induction k with
    | zero => intro _; simp [Nat.mod_one]
    | succ k ih => intro hk; rw [mod_succ, mod_succ, ih (by omega), h k (by omega)]
  have := this n (Nat.le_refl _)
  rwa [Nat.mod_eq_of_lt hu, Nat.mod_eq_of_lt hv] at this

theorem dg_mod {v n j : Nat} (h : j < n) : dg (v % WW ^ n) j = dg v j := by
  unfold dg
  obtain ⟨d, rfl⟩ : ∃ d, n = j + 1 + d := ⟨n - (j + 1), by omega⟩
  rw [Nat.pow_add, Nat.mod_mul, Nat.pow_succ, Nat.mod_mul]
  rw [show v % WW ^ j + WW ^ j * (v / WW ^ j % WW) + WW ^ j * WW * (v / (WW ^ j * WW) % WW ^ d) = v % WW ^ j + WW ^ j * ((v / WW ^ j % WW) + WW * (v / (WW ^ j * WW) % WW ^ d)) by rw [Nat.mul_add, Nat.mul_assoc, Nat.add_assoc]]
  rw [Nat.add_mul_div_left _ _ (WWp_pos j), Nat.div_eq_of_lt (Nat.mod_lt _ (WWp_pos j)), Nat.zero_add, Nat.add_mul_mod_self_left, Nat.mod_mod]

/-- The carry of a sum of two numbers, the second one times a limb, at a place. -/
def cy (v u m i : Nat) : Nat := (v % WW ^ i + u % WW ^ i * m) / WW ^ i

theorem cy_zero (v u m : Nat) : cy v u m 0 = 0 := by simp [cy, Nat.mod_one]

theorem cy_lt (v u m i : Nat) (hm : m < WW) : cy v u m i < WW := by
  unfold cy
  rw [Nat.div_lt_iff_lt_mul (WWp_pos i)]
  have h1 := Nat.mod_lt v (WWp_pos i)
  have h2 := Nat.mod_lt u (WWp_pos i)
  generalize v % WW ^ i = a at *
  generalize u % WW ^ i = b at *
  generalize WW ^ i = M at *
  have h3 : b * m ≤ b * (WW - 1) := Nat.mul_le_mul_left _ (by omega)
  have h4 : b * (WW - 1) ≤ (M - 1) * (WW - 1) := Nat.mul_le_mul_right _ (by omega)
  have h5 : (M - 1) * (WW - 1) + (M - 1) = (M - 1) * WW := by
    have : WW = (WW - 1) + 1 := by have := WW_pos; omega
    rw (occs := .pos [2]) [this]; rw [Nat.mul_add, Nat.mul_one]
  have h6 : (M - 1) * WW ≤ M * WW := Nat.mul_le_mul_right _ (by omega)
  have h7 : (M - 1) * WW + WW = M * WW := by
    have : M = (M - 1) + 1 := by omega
    rw (occs := .pos [2]) [this]; rw [Nat.add_mul, Nat.one_mul]
  have := WW_pos
  rw [Nat.mul_comm WW M]
  omega

theorem cy_step (v u m i : Nat) : (dg v i + dg u i * m + cy v u m i) % WW = dg (v + u * m) i ∧ (dg v i + dg u i * m + cy v u m i) / WW = cy v u m (i + 1) := by
  have hM := WWp_pos i
  have e1 : v = v % WW ^ i + WW ^ i * (v / WW ^ i) := (Nat.mod_add_div v _).symm
  have e2 : u = u % WW ^ i + WW ^ i * (u / WW ^ i) := (Nat.mod_add_div u _).symm
  constructor
  · unfold dg cy
    have e3 : (v + u * m) / WW ^ i = v / WW ^ i + u / WW ^ i * m + (v % WW ^ i + u % WW ^ i * m) / WW ^ i := by
      conv => lhs; rw [e1, e2]
      rw [show v % WW ^ i + WW ^ i * (v / WW ^ i) + (u % WW ^ i + WW ^ i * (u / WW ^ i)) * m = (v % WW ^ i + u % WW ^ i * m) + WW ^ i * (v / WW ^ i + u / WW ^ i * m) by
        rw [Nat.add_mul, Nat.mul_add, Nat.mul_assoc]; omega]
      rw [Nat.add_mul_div_left _ _ hM]; omega
    rw [e3, Nat.add_mod, Nat.add_mod (v / WW ^ i + u / WW ^ i * m), Nat.add_mod (v / WW ^ i % WW), Nat.add_mod (v / WW ^ i), Nat.mod_mod, Nat.mul_mod (u / WW ^ i % WW), Nat.mod_mod, ← Nat.mul_mod]
  · unfold cy
    rw [mod_succ v, mod_succ u, Nat.pow_succ]
    rw [show v % WW ^ i + WW ^ i * dg v i + (u % WW ^ i + WW ^ i * dg u i) * m = (v % WW ^ i + u % WW ^ i * m) + WW ^ i * (dg v i + dg u i * m) by
        rw [Nat.add_mul, Nat.mul_add, Nat.mul_assoc]; omega]
    rw [← Nat.div_div_eq_div_mul, Nat.add_mul_div_left _ _ hM, Nat.add_comm]

/-- The borrow of a difference at a place: 1 or 0. -/
def bw (v u i : Nat) : Nat := if v % WW ^ i < u % WW ^ i then 1 else 0

theorem bw_zero (v u : Nat) : bw v u 0 = 0 := by simp [bw, Nat.mod_one]
theorem bw_le (v u i : Nat) : bw v u i ≤ 1 := by unfold bw; split <;> omega

theorem bw_step (v u i : Nat) : bw v u (i + 1) = if dg v i < dg u i + bw v u i then 1 else 0 := by
  have h1 := Nat.mod_lt v (WWp_pos i)
  have h2 := Nat.mod_lt u (WWp_pos i)
  unfold bw
  rw [mod_succ v, mod_succ u]
  generalize dg v i = a
  generalize dg u i = b
  generalize v % WW ^ i = r at *
  generalize u % WW ^ i = s at *
  generalize WW ^ i = M at *
  have key : (r + M * a < s + M * b) ↔ (a < b + if r < s then 1 else 0) := by
    rcases Nat.lt_trichotomy a b with h | h | h
    · have : M * (a + 1) ≤ M * b := Nat.mul_le_mul_left _ h
      rw [Nat.mul_add] at this
      constructor
      · intro _; split <;> omega
      · intro _; omega
    · subst h; split <;> omega
    · have : M * (b + 1) ≤ M * a := Nat.mul_le_mul_left _ h
      rw [Nat.mul_add] at this
      constructor
      · intro _; omega
      · intro h'; exfalso; revert h'; split <;> omega
  simp only [key]

theorem bw_digit (v u i : Nat) (hu : u ≤ v) : (dg v i + WW - dg u i - bw v u i) % WW = dg (v - u) i := by
  -- the digit of the difference
  have h1 := Nat.mod_lt v (WWp_pos i)
  have h2 := Nat.mod_lt u (WWp_pos i)
  have hM := WWp_pos i
  have hb := bw_le v u i
  have du := dg_lt u i
  have e1 : v = v % WW ^ i + WW ^ i * (v / WW ^ i) := (Nat.mod_add_div v _).symm
  have e2 : u = u % WW ^ i + WW ^ i * (u / WW ^ i) := (Nat.mod_add_div u _).symm
  have e3 : (v - u) / WW ^ i + bw v u i + u / WW ^ i = v / WW ^ i := by
    unfold bw
    generalize v % WW ^ i = r at *
    generalize u % WW ^ i = s at *
    generalize v / WW ^ i = x at *
    generalize u / WW ^ i = y at *
    generalize WW ^ i = M at *
    have hxy : y ≤ x := by
      rcases Nat.lt_or_ge x y with h | h
      · have : M * (x + 1) ≤ M * y := Nat.mul_le_mul_left _ h
        rw [Nat.mul_add] at this; omega
      · exact h
    obtain ⟨d, rfl⟩ : ∃ d, x = y + d := ⟨x - y, by omega⟩
    split
    · rename_i hrs
      have hd : 1 ≤ d := by
        rcases Nat.eq_zero_or_pos d with h | h
        · subst h; simp at e1; omega
        · exact h
      obtain ⟨d', rfl⟩ : ∃ d', d = d' + 1 := ⟨d - 1, by omega⟩
      have : v - u = (M + r - s) + M * d' := by rw [Nat.mul_add, Nat.mul_add] at e1; omega
      rw [this, Nat.add_mul_div_left _ _ hM, Nat.div_eq_of_lt (by omega)]; omega
    · have : v - u = (r - s) + M * d := by rw [Nat.mul_add] at e1; omega
      rw [this, Nat.add_mul_div_left _ _ hM, Nat.div_eq_of_lt (by omega)]; omega
  unfold dg at *
  generalize (v - u) / WW ^ i = q at *
  rw [← e3]
  generalize bw v u i = c at *
  generalize u / WW ^ i = y at *
  have hW := WW_pos
  -- (q + c + y) % W + W - y % W - c ≡ q
  have e4 : ((q + c + y) % WW + WW - y % WW - c) % WW = q % WW := by
    have a1 : y = y % WW + WW * (y / WW) := (Nat.mod_add_div y _).symm
    have a2 : (q + c + y) % WW = (q + c + y % WW) % WW := by
      rw [Nat.add_mod, Nat.add_mod (q + c) (y % WW), Nat.mod_mod]
    rw [a2]
    generalize y % WW = z at *
    have a3 : q = q % WW + WW * (q / WW) := (Nat.mod_add_div q _).symm
    have a4 : (q + c + z) % WW = (q % WW + c + z) % WW := by
      conv => lhs; rw [a3, show q % WW + WW * (q / WW) + c + z = (q % WW + c + z) + WW * (q / WW) by omega, Nat.add_mul_mod_self_left]
    rw [a4]
    have hq := Nat.mod_lt q hW
    generalize q % WW = p at *
    rcases Nat.lt_or_ge (p + c + z) WW with h | h
    · rw [Nat.mod_eq_of_lt h, show p + c + z + WW - z - c = p + WW by omega, Nat.add_mod_right, Nat.mod_eq_of_lt hq]
    · rcases Nat.lt_or_ge (p + c + z) (2 * WW) with h' | h'
      · have : (p + c + z) % WW = p + c + z - WW := by
          rw [Nat.mod_eq_sub_mod h, Nat.mod_eq_of_lt (by omega)]
        rw [this, show p + c + z - WW + WW - z - c = p by omega, Nat.mod_eq_of_lt hq]
      · exfalso; omega
  exact e4

/-- The number that bytes say, the highest first. -/
def nvF : Nat → List UInt8 → Nat
  | a, [] => a
  | a, c :: l => nvF (a * 256 + c.toNat) l
def nv (l : List UInt8) : Nat := nvF 0 l

theorem nvF_add (a : Nat) (l : List UInt8) : nvF a l = a * 256 ^ l.length + nv l := by
  unfold nv
  induction l generalizing a with
  | nil => simp [nvF]
  | cons c l ih =>
    simp only [nvF, List.length_cons]
    rw [ih, ih (0 * 256 + c.toNat), Nat.pow_succ, Nat.add_mul, Nat.zero_mul, Nat.zero_add, ← Nat.add_assoc, Nat.mul_assoc, Nat.mul_comm 256]

theorem nv_nil : nv [] = 0 := rfl
theorem nv_cons (c : UInt8) (l : List UInt8) : nv (c :: l) = c.toNat * 256 ^ l.length + nv l := by
  show nvF (0 * 256 + c.toNat) l = _
  rw [nvF_add]; simp
theorem nv_append (a b : List UInt8) : nv (a ++ b) = nv a * 256 ^ b.length + nv b := by
  induction a with
  | nil => simp [nv_nil]
  | cons c a ih => rw [List.cons_append, nv_cons, nv_cons, ih, List.length_append, Nat.pow_add, Nat.add_mul, Nat.add_assoc, Nat.mul_assoc]
theorem nv_lt (l : List UInt8) : nv l < 256 ^ l.length := by
  induction l with
  | nil => simp [nv_nil]
  | cons c l ih =>
    rw [nv_cons, List.length_cons, Nat.pow_succ]
    have hc : c.toNat ≤ 255 := by have := c.toNat_lt; omega
    have := Nat.mul_le_mul_right (256 ^ l.length) hc
    omega

/-- The bytes of a number, without a 0 ahead. -/
def ntF : Nat → Nat → List UInt8
  | 0, _ => []
  | f + 1, n => if n = 0 then [] else ntF f (n / 256) ++ [UInt8.ofNat (n % 256)]
def nt (n : Nat) : List UInt8 := ntF n n

theorem ntF_more (f g n : Nat) (hf : n ≤ f) (hg : n ≤ g) : ntF f n = ntF g n := by
  induction f generalizing g n with
  | zero => obtain rfl : n = 0 := by omega
            cases g <;> simp [ntF]
  | succ f ih =>
    cases g with
    | zero => obtain rfl : n = 0 := by omega
              simp [ntF]
    | succ g =>
      simp only [ntF]
      split
      · rfl
      · rw [ih g (n / 256) (by omega) (by omega)]

theorem nt_zero : nt 0 = [] := rfl
theorem nt_pos {n : Nat} (h : 0 < n) : nt n = nt (n / 256) ++ [UInt8.ofNat (n % 256)] := by
  unfold nt
  obtain ⟨m, rfl⟩ : ∃ m, n = m + 1 := ⟨n - 1, by omega⟩
  rw [ntF, if_neg (by omega), ntF_more m ((m + 1) / 256) _ (by omega) (by omega)]

theorem byte_mod (n : Nat) : (UInt8.ofNat (n % 256)).toNat = n % 256 := by
  simp [UInt8.toNat_ofNat']

theorem nv_nt (n : Nat) : nv (nt n) = n := by
  induction n using Nat.strongRecOn with
  | _ n ih =>
    rcases Nat.eq_zero_or_pos n with h | h
    · subst h; rfl
    · rw [nt_pos h, nv_append, ih (n / 256) (by omega), nv_cons, byte_mod]; simp [nv_nil]; omega

theorem nt_ne_nil {n : Nat} (h : 0 < n) : nt n ≠ [] := by rw [nt_pos h]; simp

theorem nt_head (n : Nat) : ∀ c, (nt n).head? = some c → c ≠ 0 := by
  induction n using Nat.strongRecOn with
  | _ n ih =>
    intro c hc
    rcases Nat.eq_zero_or_pos n with h | h
    · subst h; simp [nt_zero] at hc
    · rw [nt_pos h] at hc
      rcases Nat.eq_zero_or_pos (n / 256) with h' | h'
      · rw [h', nt_zero] at hc
        simp at hc; subst hc
        intro h0
        have := congrArg UInt8.toNat h0
        rw [byte_mod] at this; simp at this; omega
      · have hne := nt_ne_nil h'
        cases hd : nt (n / 256) with
        | nil => exact absurd hd hne
        | cons a l =>
          rw [hd] at hc; simp at hc; subst hc
          exact ih (n / 256) (by omega) a (by rw [hd]; rfl)

theorem rev_ind {α : Type} {P : List α → Prop} (h0 : P []) (h1 : ∀ l c, P l → P (l ++ [c])) (l : List α) : P l := by
  have : ∀ m : List α, P m.reverse := by
    intro m
    induction m with
    | nil => exact h0
    | cons a m ih => rw [List.reverse_cons]; exact h1 _ _ ih
  have := this l.reverse
  rwa [List.reverse_reverse] at this

/-- Bytes without a 0 ahead are the number's own. -/
theorem nt_nv (l : List UInt8) (h : ∀ c, l.head? = some c → c ≠ 0) : nt (nv l) = l := by
  revert h
  refine rev_ind (P := fun l => (∀ c, l.head? = some c → c ≠ 0) → nt (nv l) = l) ?_ ?_ l
  · intro _; rfl
  · intro l c ih h
    have hv : nv (l ++ [c]) = nv l * 256 + c.toNat := by rw [nv_append, nv_cons]; simp [nv_nil]
    have hc := c.toNat_lt
    have hl : ∀ a, l.head? = some a → a ≠ 0 := by
      intro a ha; apply h
      cases l with
      | nil => simp at ha
      | cons x y => simpa using ha
    have hpos : 0 < nv (l ++ [c]) := by
      rw [hv]
      cases l with
      | nil =>
        have := h c (by simp)
        have : c.toNat ≠ 0 := fun h0 => this (UInt8.toNat_inj.1 (by simpa using h0))
        omega
      | cons x y =>
        have hx := h x (by simp)
        have : x.toNat ≠ 0 := fun h0 => hx (UInt8.toNat_inj.1 (by simpa using h0))
        have h1 : 1 * 256 ^ y.length ≤ x.toNat * 256 ^ y.length := Nat.mul_le_mul_right _ (by omega)
        have h2 : 0 < 256 ^ y.length := Nat.pow_pos (by decide)
        rw [nv_cons]; omega
    rw [nt_pos hpos, hv, show (nv l * 256 + c.toNat) / 256 = nv l by omega, show (nv l * 256 + c.toNat) % 256 = c.toNat by omega, ih hl]
    simp

theorem nt_inj {a b : Nat} (h : nt a = nt b) : a = b := by rw [← nv_nt a, h, nv_nt]

theorem nt_length_le {n k : Nat} (h : n < 256 ^ k) : (nt n).length ≤ k := by
  induction k generalizing n with
  | zero => obtain rfl : n = 0 := by simpa using h
            simp [nt_zero]
  | succ k ih =>
    rcases Nat.eq_zero_or_pos n with h0 | h0
    · subst h0; simp [nt_zero]
    · rw [nt_pos h0, List.length_append, List.length_singleton]
      have := ih (n := n / 256) (by rw [Nat.div_lt_iff_lt_mul (by decide)]; rwa [Nat.pow_succ] at h)
      omega

theorem lt_nt_length (n : Nat) : n < 256 ^ (nt n).length := by
  have := nv_lt (nt n); rwa [nv_nt] at this

theorem nt_nil_iff (n : Nat) : nt n = [] ↔ n = 0 := by
  constructor
  · intro h; rcases Nat.eq_zero_or_pos n with h0 | h0
    · exact h0
    · exact absurd h (nt_ne_nil h0)
  · intro h; subst h; rfl

/-- Without the noughts ahead. -/
theorem nv_dropWhile (l : List UInt8) : nv (l.dropWhile (· == 0)) = nv l := by
  induction l with
  | nil => rfl
  | cons c l ih =>
    rw [List.dropWhile_cons]
    split
    · rename_i h
      rw [ih, nv_cons]
      simp at h; subst h; simp
    · rfl

theorem trim_nt (l : List UInt8) : l.dropWhile (· == 0) = nt (nv l) := by
  rw [← nv_dropWhile l]
  refine (nt_nv _ ?_).symm
  intro c hc
  have := List.head?_dropWhile_not (p := (· == (0 : UInt8))) (l := l)
  rw [hc] at this
  simpa using this

/-- Bytes of the middle: what the last k bytes say. -/
theorem nv_last (l : List UInt8) (k : Nat) (hk : k < l.length) :
    nv (l.drop (l.length - 1 - k)) = nv (l.drop (l.length - k)) + l[l.length - 1 - k].toNat * 256 ^ k := by
  rw [List.drop_eq_getElem_cons (show l.length - 1 - k < l.length by omega), nv_cons, Nat.add_comm]
  rw [show l.length - 1 - k + 1 = l.length - k by omega, List.length_drop, show l.length - (l.length - k) = k by omega]

end Go.Proofs.YtidjljldhdckiaaGreatDoor

/- Plain facts on digits, on: a number put in at a place, shifts. -/
namespace Go.Proofs.YtidjljldhdckiaaGreatDoor

theorem dg_add_at (V D q j : Nat) (h : V / WW ^ q + D < WW) : dg (V + D * WW ^ q) j = if j = q then dg V q + D else dg V j := by
  have hW := WW_pos
  have e : (V + D * WW ^ q) / WW ^ q = V / WW ^ q + D := by rw [Nat.mul_comm, Nat.add_mul_div_left _ _ (WWp_pos q)]
  rcases Nat.lt_trichotomy j q with hj | hj | hj
  · rw [if_neg (by omega)]
    obtain ⟨d, rfl⟩ : ∃ d, q = j + 1 + d := ⟨q - j - 1, by omega⟩
    unfold dg
    rw [show D * WW ^ (j + 1 + d) = WW ^ j * (WW * (D * WW ^ d)) by rw [Nat.pow_add, Nat.pow_succ]; simp only [Nat.mul_comm, Nat.mul_left_comm, Nat.mul_assoc]]
    rw [Nat.add_mul_div_left _ _ (WWp_pos j), Nat.add_mul_mod_self_left]
  · subst hj
    rw [if_pos rfl]
    unfold dg
    rw [e, Nat.mod_eq_of_lt h, Nat.mod_eq_of_lt (by omega)]
  · rw [if_neg (by omega)]
    have h1 : V + D * WW ^ q < WW ^ (q + 1) := by
      rw [Nat.pow_succ, Nat.mul_comm (WW ^ q)]
      exact (Nat.div_lt_iff_lt_mul (WWp_pos q)).1 (by rw [e]; exact h)
    have h2 : V < WW ^ (q + 1) := by omega
    rw [dg_of_lt h1 (by omega), dg_of_lt h2 (by omega)]

theorem or_add {X C i : Nat} (h : X < 2 ^ i) : X ||| C * 2 ^ i = X + C * 2 ^ i := by
  rw [Nat.mul_comm C, Nat.or_comm, ← Nat.two_pow_add_eq_or_of_lt h, Nat.add_comm]

theorem pow256 (k : Nat) : 256 ^ k = WW ^ (k / 8) * 2 ^ (k % 8 * 8) := by
  rw [WWp_two, ← Nat.pow_add, show (256 : Nat) = 2 ^ 8 by rfl, ← Nat.pow_mul]
  congr 1; omega

/-- A byte put in above all others: the place's digit. -/
theorem byte_digit (V C k : Nat) (hV : V < 256 ^ k) (hC : C < 256) :
    dg V (k / 8) < 2 ^ (k % 8 * 8) ∧ C * 2 ^ (k % 8 * 8) < WW ∧ ∀ j, dg (V + C * 256 ^ k) j = if j = k / 8 then dg V (k / 8) + C * 2 ^ (k % 8 * 8) else dg V j := by
  have h1 : V / WW ^ (k / 8) < 2 ^ (k % 8 * 8) := by
    rw [pow256] at hV
    rw [Nat.div_lt_iff_lt_mul (WWp_pos _), Nat.mul_comm]; exact hV
  have h2 : 2 ^ (k % 8 * 8) * 256 ≤ WW := by
    rw [show (256 : Nat) = 2 ^ 8 by rfl, ← Nat.pow_add, WW_two]
    exact Nat.pow_le_pow_right (by decide) (by omega)
  have h3 : C * 2 ^ (k % 8 * 8) + 2 ^ (k % 8 * 8) ≤ 2 ^ (k % 8 * 8) * 256 := by
    have : 2 ^ (k % 8 * 8) * (C + 1) ≤ 2 ^ (k % 8 * 8) * 256 := Nat.mul_le_mul_left _ (by omega)
    rw [Nat.mul_add, Nat.mul_comm] at this; omega
  have h4 : dg V (k / 8) = V / WW ^ (k / 8) := by unfold dg; exact Nat.mod_eq_of_lt (by omega)
  refine ⟨by rw [h4]; exact h1, by have := Nat.pow_pos (n := k % 8 * 8) (show 0 < 2 by decide); omega, fun j => ?_⟩
  rw [pow256, Nat.mul_comm (WW ^ (k / 8)), ← Nat.mul_assoc]
  exact dg_add_at V _ (k / 8) j (by omega)

/-- A number's digit, taken lower. -/
theorem dg_down (u r i : Nat) (hr : r < 64) : dg (u / 2 ^ r) i = dg u i / 2 ^ r + dg u (i + 1) * 2 ^ (64 - r) % WW := by
  unfold dg
  have hpow : 2 ^ r * 2 ^ (64 - r) = WW := by rw [← Nat.pow_add, WW_two]; congr 1; omega
  have hp := Nat.pow_pos (n := r) (show 0 < 2 by decide)
  have hq := Nat.pow_pos (n := 64 - r) (show 0 < 2 by decide)
  rw [Nat.div_div_eq_div_mul, Nat.mul_comm (2 ^ r), ← Nat.div_div_eq_div_mul, Nat.pow_succ, ← Nat.div_div_eq_div_mul]
  generalize u / WW ^ i = x
  rw [show x / WW % WW * 2 ^ (64 - r) % WW = (x / WW) * 2 ^ (64 - r) % WW by rw [Nat.mul_mod, Nat.mod_mod, ← Nat.mul_mod]]
  have e : x = x % WW + WW * (x / WW) := (Nat.mod_add_div x WW).symm
  have hx := Nat.mod_lt x WW_pos
  generalize x % WW = a at *
  generalize x / WW = y at *
  subst e
  rw [← hpow] at hx ⊢
  generalize 2 ^ r = p at *
  generalize 2 ^ (64 - r) = q at *
  rw [Nat.mul_assoc, Nat.add_mul_div_left _ _ hp]
  have ha : a / p < q := by rw [Nat.div_lt_iff_lt_mul hp, Nat.mul_comm]; exact hx
  -- (a/p + q*y) % (p*q) = a/p + (y*q) % (p*q)
  rw [Nat.mul_comm p q, Nat.mod_mul, Nat.add_mul_mod_self_left, Nat.mod_eq_of_lt ha, Nat.add_mul_div_left _ _ hq, Nat.div_eq_of_lt ha, Nat.zero_add]
  rw [Nat.mul_comm y q, Nat.mod_mul, Nat.mul_mod_right, Nat.mul_div_cancel_left _ hq, Nat.zero_add]
/-- The two digits of a digit that is moved up by some bits. -/
theorem up_split (d r : Nat) (hd : d < WW) (hr : r < 64) : ∃ c, d * 2 ^ r % WW = c * 2 ^ r ∧ d * 2 ^ r / WW = d / 2 ^ (64 - r) ∧ d / 2 ^ (64 - r) < 2 ^ r ∧ c * 2 ^ r + 2 ^ r ≤ WW ∧ d * 2 ^ r = c * 2 ^ r + WW * (d / 2 ^ (64 - r)) := by
  have hpow : 2 ^ (64 - r) * 2 ^ r = WW := by rw [← Nat.pow_add, WW_two]; congr 1; omega
  have hp := Nat.pow_pos (n := r) (show 0 < 2 by decide)
  have hq := Nat.pow_pos (n := 64 - r) (show 0 < 2 by decide)
  rw [← hpow] at hd ⊢
  generalize 2 ^ r = p at *
  generalize 2 ^ (64 - r) = q at *
  refine ⟨d % q, ?_, ?_, ?_, ?_, ?_⟩
  · rw [Nat.mul_mod_mul_right]
  · rw [Nat.mul_div_mul_right _ _ hp]
  · rw [Nat.div_lt_iff_lt_mul hq, Nat.mul_comm]; exact hd
  · have := Nat.mod_lt d hq
    have : (d % q + 1) * p ≤ q * p := Nat.mul_le_mul_right _ this
    rw [Nat.add_mul] at this; omega
  · have e := (Nat.mod_add_div d q).symm
    conv => lhs; rw [e]
    rw [Nat.add_mul, Nat.mul_assoc, Nat.mul_assoc, Nat.mul_comm (d / q)]

/-- A number times a power of two, one digit more of it. -/
theorem up_digit (v n i : Nat) : ∃ c, c * 2 ^ (n % 64) = dg v i * 2 ^ (n % 64) % WW ∧ dg (v % WW ^ i * 2 ^ n) (i + n / 64) < 2 ^ (n % 64) ∧ c * 2 ^ (n % 64) + 2 ^ (n % 64) ≤ WW ∧
    dg (v % WW ^ i * 2 ^ n) (i + n / 64 + 1) = 0 ∧ dg v i / 2 ^ (64 - n % 64) < WW ∧
    ∀ j, dg (v % WW ^ (i + 1) * 2 ^ n) j = if j = i + n / 64 + 1 then dg v i / 2 ^ (64 - n % 64) else if j = i + n / 64 then dg (v % WW ^ i * 2 ^ n) (i + n / 64) + c * 2 ^ (n % 64) else dg (v % WW ^ i * 2 ^ n) j := by
  have hr : n % 64 < 64 := Nat.mod_lt _ (by decide)
  obtain ⟨c, h1, h2, h3, h4, h5⟩ := up_split (dg v i) (n % 64) (dg_lt v i) hr
  have hn : 2 ^ n = 2 ^ (n % 64) * WW ^ (n / 64) := by
    rw [WWp_two, ← Nat.pow_add]; congr 1; omega
  have hv := Nat.mod_lt v (WWp_pos i)
  have hp := Nat.pow_pos (n := n % 64) (show 0 < 2 by decide)
  have hpW : 2 ^ (n % 64) ≤ WW := by rw [WW_two]; exact Nat.pow_le_pow_right (by decide) (by omega)
  refine ⟨c, h1.symm, ?_⟩
  have eA : v % WW ^ (i + 1) * 2 ^ n = v % WW ^ i * 2 ^ n + c * 2 ^ (n % 64) * WW ^ (i + n / 64) + dg v i / 2 ^ (64 - n % 64) * WW ^ (i + n / 64 + 1) := by
    have h6 : dg v i * 2 ^ (n % 64) * WW ^ (i + n / 64) = (c * 2 ^ (n % 64) + WW * (dg v i / 2 ^ (64 - n % 64))) * WW ^ (i + n / 64) := by rw [h5]
    rw [mod_succ, hn]
    rw [Nat.pow_succ WW (i + n / 64)]
    rw [Nat.add_mul] at h6
    rw [Nat.add_mul, Nat.add_assoc]
    congr 1
    rw [Nat.pow_add WW i] at *
    have e1 : WW ^ i * dg v i * (2 ^ (n % 64) * WW ^ (n / 64)) = dg v i * 2 ^ (n % 64) * (WW ^ i * WW ^ (n / 64)) := by simp only [Nat.mul_comm, Nat.mul_left_comm, Nat.mul_assoc]
    rw [e1, h6]
    congr 1
    simp only [Nat.mul_comm, Nat.mul_left_comm, Nat.mul_assoc]
  have hVlt : v % WW ^ i * 2 ^ n / WW ^ (i + n / 64) < 2 ^ (n % 64) := by
    rw [Nat.div_lt_iff_lt_mul (WWp_pos _), hn, Nat.pow_add, ← Nat.mul_assoc, ← Nat.mul_assoc, Nat.mul_comm (2 ^ (n % 64))]
    exact Nat.mul_lt_mul_of_pos_right (Nat.mul_lt_mul_of_pos_right hv hp) (WWp_pos _)
  have hdlow : dg (v % WW ^ i * 2 ^ n) (i + n / 64) = v % WW ^ i * 2 ^ n / WW ^ (i + n / 64) := by
    unfold dg; exact Nat.mod_eq_of_lt (by omega)
  have hVW : v % WW ^ i * 2 ^ n < WW ^ (i + n / 64 + 1) := by
    rw [Nat.pow_succ, Nat.mul_comm (WW ^ _)]
    exact (Nat.div_lt_iff_lt_mul (WWp_pos _)).1 (by omega)
  have hd1 : dg (v % WW ^ i * 2 ^ n) (i + n / 64 + 1) = 0 := dg_of_lt hVW (Nat.le_refl _)
  have hhi : dg v i / 2 ^ (64 - n % 64) < WW := by omega
  refine ⟨by rw [hdlow]; exact hVlt, h4, hd1, hhi, fun j => ?_⟩
  have hV2 : v % WW ^ i * 2 ^ n + c * 2 ^ (n % 64) * WW ^ (i + n / 64) < WW ^ (i + n / 64 + 1) := by
    rw [Nat.pow_succ, Nat.mul_comm (WW ^ (i + n / 64)) WW]
    refine (Nat.div_lt_iff_lt_mul (WWp_pos _)).1 ?_
    rw [Nat.mul_comm (c * 2 ^ (n % 64)), Nat.add_mul_div_left _ _ (WWp_pos _)]; omega
  rw [eA, dg_add_at _ _ (i + n / 64 + 1) j (by rw [Nat.div_eq_of_lt hV2]; omega)]
  rw [dg_add_at _ (c * 2 ^ (n % 64)) (i + n / 64) _ (by omega), dg_add_at _ (c * 2 ^ (n % 64)) (i + n / 64) _ (by omega)]
  by_cases hj : j = i + n / 64 + 1
  · rw [if_pos hj, if_pos hj, if_neg (by omega), hd1, Nat.zero_add]
  · rw [if_neg hj, if_neg hj]
end Go.Proofs.YtidjljldhdckiaaGreatDoor
