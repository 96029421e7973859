/- Forms over a simplex, as plain lists of numbers: lifted and split, in whatever order; sums; corners. No program here. -/
import Derived.Test.YtidjljldhdckiaaGreatDoorKDyM
namespace Go.Proofs.YtidjljldhdckiaaGreatDoor

/-- The sum of so many. -/
def sumTo (f : Nat → Dyadic) : Nat → Dyadic
  | 0 => 0
  | n + 1 => sumTo f n + f n
theorem sumTo_congr {f g : Nat → Dyadic} (n : Nat) (h : ∀ k, k < n → f k = g k) : sumTo f n = sumTo g n := by
  induction n with
  | zero => rfl
  | succ n ih => rw [sumTo, sumTo, ih (fun k hk => h k (by omega)), h n (by omega)]
theorem sumTo_add (f g : Nat → Dyadic) (n : Nat) : sumTo (fun k => f k + g k) n = sumTo f n + sumTo g n := by
  induction n with
  | zero => simp only [sumTo]; grind
  | succ n ih => simp only [sumTo, ih]; grind
theorem sumTo_sub (f g : Nat → Dyadic) (n : Nat) : sumTo (fun k => f k - g k) n = sumTo f n - sumTo g n := by
  induction n with
  | zero => simp only [sumTo]; grind
  | succ n ih => simp only [sumTo, ih]; grind
theorem sumTo_mul (c : Dyadic) (f : Nat → Dyadic) (n : Nat) : sumTo (fun k => c * f k) n = c * sumTo f n := by
  induction n with
  | zero => simp only [sumTo]; grind
  | succ n ih => simp only [sumTo, ih]; grind
theorem sumTo_zero (n : Nat) : sumTo (fun _ => 0) n = 0 := by
  induction n with
  | zero => rfl
  | succ n ih => rw [sumTo, ih]; grind
theorem sumTo_swap (f : Nat → Nat → Dyadic) (m n : Nat) : sumTo (fun j => sumTo (fun k => f j k) n) m = sumTo (fun k => sumTo (fun j => f j k) m) n := by
  induction m with
  | zero => simp only [sumTo, sumTo_zero]
  | succ m ih => simp only [sumTo, ih, sumTo_add]
theorem sumTo_first (f : Nat → Dyadic) (n : Nat) : sumTo f (n + 1) = f 0 + sumTo (fun k => f (k + 1)) n := by
  induction n with
  | zero => simp only [sumTo]; grind
  | succ n ih => rw [sumTo, ih, sumTo]; grind
theorem ite_succ {α : Type} (i n : Nat) (h : n ≠ i) (a b : α) : (if i < n + 1 then a else b) = if i < n then a else b := by
  by_cases h1 : i < n
  · rw [if_pos h1, if_pos (by omega)]
  · rw [if_neg h1, if_neg (by omega)]
theorem sumTo_two (D : Nat → Dyadic) (i j : Nat) (hij : i ≠ j) (n : Nat) (h : ∀ k, k ≠ i → k ≠ j → D k = 0) :
    sumTo D n = (if i < n then D i else 0) + (if j < n then D j else 0) := by
  induction n with
  | zero => simp only [sumTo, Nat.not_lt_zero, if_false]; grind
  | succ n ih =>
    rw [sumTo, ih]
    by_cases h1 : n = i
    · subst h1
      rw [ite_succ j n hij, if_neg (Nat.lt_irrefl n), if_pos (Nat.lt_succ_self n)]; grind
    · by_cases h2 : n = j
      · subst h2
        rw [ite_succ i n (fun e => hij e.symm), if_neg (Nat.lt_irrefl n), if_pos (Nat.lt_succ_self n)]; grind
      · rw [ite_succ i n h1, ite_succ j n h2, h n h1 h2]; grind
theorem sumTo_pair {f g : Nat → Dyadic} (i j n : Nat) (hij : i ≠ j) (hi : i < n) (hj : j < n) (h : ∀ k, k < n → k ≠ i → k ≠ j → f k = g k) (h2 : f i + f j = g i + g j) : sumTo f n = sumTo g n := by
  have h3 := sumTo_two (fun k => if k < n then f k - g k else 0) i j hij n (fun k h1 h2 => by
    split
    · rename_i hk; rw [h k hk h1 h2]; grind
    · rfl)
  rw [if_pos hi, if_pos hj, if_pos hi, if_pos hj] at h3
  rw [sumTo_congr (g := fun k => f k - g k) n (fun k hk => by rw [if_pos hk]), sumTo_sub] at h3
  grind

/-- How often: Pascal's triangle. -/
def ch : Nat → Nat → Nat
  | _, 0 => 1
  | 0, _ + 1 => 0
  | n + 1, k + 1 => ch n k + ch n (k + 1)
theorem ch_big (n k : Nat) (h : n < k) : ch n k = 0 := by
  induction n generalizing k with
  | zero => cases k with
    | zero => omega
    | succ k => rfl
  | succ n ih => cases k with
    | zero => omega
    | succ k => rw [ch, ih k (by omega), ih (k + 1) (by omega)]
theorem ch_zero (n : Nat) : ch n 0 = 1 := by cases n <;> rfl
def chD (n k : Nat) : Dyadic := Dyadic.ofIntWithPrec (ch n k : Nat) 0
theorem chD_zero (n : Nat) : chD n 0 = 1 := by unfold chD; rw [ch_zero]; rfl
theorem chD_big (n k : Nat) (h : n < k) : chD n k = 0 := by unfold chD; rw [ch_big n k h]; exact owp_zero 0
theorem chD_succ (n k : Nat) : chD (n + 1) (k + 1) = chD n k + chD n (k + 1) := by
  unfold chD; rw [owp_add, ch]; simp
/-- A half's power. -/
def hp (k : Nat) : Dyadic := Dyadic.ofIntWithPrec 1 k
theorem hp_succ (k : Nat) : hp (k + 1) + hp (k + 1) = hp k := by
  unfold hp
  rw [owp_add]
  exact owp_shift 1 1 k

theorem pascal (F : Nat → Dyadic) (a : Nat) : sumTo (fun t => chD (a + 1) t * F t) (a + 2) = sumTo (fun t => chD a t * (F t + F (t + 1))) (a + 1) := by
  rw [sumTo_first, sumTo_congr (g := fun k => chD a k * F (k + 1) + chD a (k + 1) * F (k + 1)) (a + 1) (fun k _ => by rw [chD_succ]; grind), sumTo_add]
  rw [sumTo_congr (f := fun t => chD a t * (F t + F (t + 1))) (g := fun k => chD a k * F k + chD a k * F (k + 1)) (a + 1) (fun k _ => by grind), sumTo_add]
  rw [sumTo_first (fun k => chD a k * F k), chD_zero, chD_zero]
  have e : sumTo (fun k => chD a (k + 1) * F (k + 1)) (a + 1) = sumTo (fun k => chD a (k + 1) * F (k + 1)) a := by
    rw [sumTo, chD_big a (a + 1) (by omega)]; grind
  rw [e]; grind

/-- A row with one more at k; with t of i's moved to j. -/
def inc (x : List Nat) (k : Nat) : List Nat := x.set k (x.getD k 0 + 1)
def mv (x : List Nat) (i j t : Nat) : List Nat := (x.set i (x.getD i 0 - t)).set j (x.getD j 0 + t)

theorem inc_length (x : List Nat) (k : Nat) : (inc x k).length = x.length := by simp [inc]
theorem mv_length (x : List Nat) (i j t : Nat) : (mv x i j t).length = x.length := by simp [mv]
theorem getD_set (x : List Nat) (i k v : Nat) (hi : i < x.length) : (x.set i v).getD k 0 = if i = k then v else x.getD k 0 := by
  rw [List.getD_eq_getElem?_getD, List.getD_eq_getElem?_getD, List.getElem?_set]
  by_cases h : i = k
  · rw [if_pos h, if_pos h, if_pos hi]; rfl
  · rw [if_neg h, if_neg h]
theorem getD_inc (x : List Nat) (k l : Nat) (hk : k < x.length) : (inc x k).getD l 0 = if k = l then x.getD l 0 + 1 else x.getD l 0 := by
  unfold inc; rw [getD_set _ _ _ _ hk]; split
  · rename_i h; rw [h]
  · rfl
theorem getD_mv (x : List Nat) (i j t l : Nat) (_hij : i ≠ j) (hi : i < x.length) (hj : j < x.length) : (mv x i j t).getD l 0 = if j = l then x.getD l 0 + t else if i = l then x.getD l 0 - t else x.getD l 0 := by
  unfold mv; rw [getD_set _ _ _ _ (by simpa using hj), getD_set _ _ _ _ hi]
  by_cases h : j = l
  · rw [if_pos h, if_pos h, h]
  · rw [if_neg h, if_neg h]
    by_cases h2 : i = l
    · rw [if_pos h2, if_pos h2, h2]
    · rw [if_neg h2, if_neg h2]
theorem ext_getD {x y : List Nat} (hl : x.length = y.length) (h : ∀ l, l < x.length → x.getD l 0 = y.getD l 0) : x = y := by
  apply List.ext_getElem hl
  intro l h1 h2
  have := h l h1
  simpa [h1, h2] using this

/-- One more, and a half, seen from what weighs the rows. -/
def liftG (g : List Nat → Dyadic) (x : List Nat) : Dyadic := sumTo (fun k => g (inc x k)) x.length
def halfG (i j : Nat) (g : List Nat → Dyadic) (x : List Nat) : Dyadic := sumTo (fun t => chD (x.getD i 0) t * hp (x.getD j 0 + t) * g (mv x i j t)) (x.getD i 0 + 1)

theorem lift_half (i j : Nat) (g : List Nat → Dyadic) (x : List Nat) (hij : i ≠ j) (hi : i < x.length) (hj : j < x.length) : liftG (halfG i j g) x = halfG i j (liftG g) x := by
  obtain ⟨a, ha⟩ : ∃ a, x.getD i 0 = a := ⟨_, rfl⟩
  obtain ⟨b, hb⟩ : ∃ b, x.getD j 0 = b := ⟨_, rfl⟩
  have hR : halfG i j (liftG g) x = sumTo (fun k => sumTo (fun t => chD a t * hp (b + t) * g (inc (mv x i j t) k)) (a + 1)) x.length := by
    unfold halfG
    rw [ha, hb]
    rw [sumTo_congr (g := fun t => sumTo (fun k => chD a t * hp (b + t) * g (inc (mv x i j t) k)) x.length) (a + 1) (fun t _ => by unfold liftG; rw [mv_length, sumTo_mul])]
    exact sumTo_swap _ _ _
  rw [hR]
  unfold liftG
  refine sumTo_pair i j x.length hij hi hj (fun k hk h1 h2 => ?_) ?_
  · unfold halfG
    rw [getD_inc _ _ _ hk, getD_inc _ _ _ hk, if_neg h1, if_neg h2, ha, hb]
    refine sumTo_congr _ (fun t ht => ?_)
    congr 2
    refine ext_getD (by simp only [inc_length, mv_length]) (fun l hl => ?_)
    rw [getD_mv _ _ _ _ _ hij (by rw [inc_length]; exact hi) (by rw [inc_length]; exact hj), getD_inc _ _ _ hk, getD_inc _ _ _ (by rw [mv_length]; exact hk), getD_mv _ _ _ _ _ hij hi hj]
    by_cases e1 : j = l
    · subst e1; simp [h2]
    · by_cases e2 : i = l
      · subst e2; simp [h1, e1]
      · simp [e1, e2]
  · obtain ⟨G, hG⟩ : ∃ G : Nat → Dyadic, G = fun s => g ((x.set i (a + 1 - s)).set j (b + s)) := ⟨_, rfl⟩
    have e1 : halfG i j g (inc x i) = sumTo (fun t => chD (a + 1) t * (hp (b + t) * G t)) (a + 2) := by
      unfold halfG
      rw [getD_inc _ _ _ hi, getD_inc _ _ _ hi, if_pos rfl, if_neg hij, ha, hb]
      refine sumTo_congr _ (fun t ht => ?_)
      have : mv (inc x i) i j t = (x.set i (a + 1 - t)).set j (b + t) := by
        refine ext_getD (by simp [inc_length, mv_length]) (fun l hl => ?_)
        rw [getD_mv _ _ _ _ _ hij (by rw [inc_length]; exact hi) (by rw [inc_length]; exact hj), getD_inc _ _ _ hi, getD_set _ _ _ _ (by simpa using hj), getD_set _ _ _ _ hi]
        have ha' : i = l → x.getD l 0 = a := fun e => by rw [← e]; exact ha
        have hb' : j = l → x.getD l 0 = b := fun e => by rw [← e]; exact hb
        generalize x.getD l 0 = y at *
        clear hl
        (repeat' split) <;> omega
      rw [this, hG]; grind
    have e2 : halfG i j g (inc x j) = sumTo (fun t => chD a t * (hp (b + 1 + t) * G (t + 1))) (a + 1) := by
      unfold halfG
      rw [getD_inc _ _ _ hj, getD_inc _ _ _ hj, if_pos rfl, if_neg (fun h => hij h.symm), ha, hb]
      refine sumTo_congr _ (fun t ht => ?_)
      have : mv (inc x j) i j t = (x.set i (a + 1 - (t + 1))).set j (b + (t + 1)) := by
        refine ext_getD (by simp [inc_length, mv_length]) (fun l hl => ?_)
        rw [getD_mv _ _ _ _ _ hij (by rw [inc_length]; exact hi) (by rw [inc_length]; exact hj), getD_inc _ _ _ hj, getD_set _ _ _ _ (by simpa using hj), getD_set _ _ _ _ hi]
        have ha' : i = l → x.getD l 0 = a := fun e => by rw [← e]; exact ha
        have hb' : j = l → x.getD l 0 = b := fun e => by rw [← e]; exact hb
        generalize x.getD l 0 = y at *
        clear hl
        (repeat' split) <;> omega
      rw [this, hG]; grind
    have e3 : sumTo (fun t => chD a t * hp (b + t) * g (inc (mv x i j t) i)) (a + 1) = sumTo (fun t => chD a t * (hp (b + t) * G t)) (a + 1) := by
      refine sumTo_congr _ (fun t ht => ?_)
      have : inc (mv x i j t) i = (x.set i (a + 1 - t)).set j (b + t) := by
        refine ext_getD (by simp [inc_length, mv_length]) (fun l hl => ?_)
        rw [getD_inc _ _ _ (by rw [mv_length]; exact hi), getD_mv _ _ _ _ _ hij hi hj, getD_set _ _ _ _ (by simpa using hj), getD_set _ _ _ _ hi]
        have ha' : i = l → x.getD l 0 = a := fun e => by rw [← e]; exact ha
        have hb' : j = l → x.getD l 0 = b := fun e => by rw [← e]; exact hb
        generalize x.getD l 0 = y at *
        clear hl
        (repeat' split) <;> omega
      rw [this, hG]; grind
    have e4 : sumTo (fun t => chD a t * hp (b + t) * g (inc (mv x i j t) j)) (a + 1) = sumTo (fun t => chD a t * (hp (b + t) * G (t + 1))) (a + 1) := by
      refine sumTo_congr _ (fun t ht => ?_)
      have : inc (mv x i j t) j = (x.set i (a + 1 - (t + 1))).set j (b + (t + 1)) := by
        refine ext_getD (by simp [inc_length, mv_length]) (fun l hl => ?_)
        rw [getD_inc _ _ _ (by rw [mv_length]; exact hj), getD_mv _ _ _ _ _ hij hi hj, getD_set _ _ _ _ (by simpa using hj), getD_set _ _ _ _ hi]
        have ha' : i = l → x.getD l 0 = a := fun e => by rw [← e]; exact ha
        have hb' : j = l → x.getD l 0 = b := fun e => by rw [← e]; exact hb
        generalize x.getD l 0 = y at *
        clear hl
        (repeat' split) <;> omega
      rw [this, hG]; grind
    rw [e1, e2, e3, e4, pascal (fun t => hp (b + t) * G t) a, ← sumTo_add, ← sumTo_add]
    refine sumTo_congr _ (fun t ht => ?_)
    have h1 := hp_succ (b + t)
    have h2 : b + (t + 1) = b + t + 1 := by omega
    have h3 : b + 1 + t = b + t + 1 := by omega
    rw [h2, h3, ← h1]; grind
end Go.Proofs.YtidjljldhdckiaaGreatDoor

/- Forms over a simplex: numbers put at rows; what comes of lifting, splitting and adding, as plain lists. No program here. -/
namespace Go.Proofs.YtidjljldhdckiaaGreatDoor

theorem sumTo_one (D : Nat → Dyadic) (q n : Nat) (hq : q < n) (h : ∀ k, k < n → k ≠ q → D k = 0) : sumTo D n = D q := by
  have key : ∀ m, m ≤ n → sumTo D m = if q < m then D q else 0 := by
    intro m
    induction m with
    | zero => intro _; simp [sumTo]
    | succ m ih =>
      intro hm
      rw [sumTo, ih (by omega)]
      by_cases h1 : m = q
      · subst h1; rw [if_neg (Nat.lt_irrefl _), if_pos (Nat.lt_succ_self _)]; grind
      · rw [h m (by omega) h1]
        rw [ite_succ q m h1]; grind
  rw [key n (Nat.le_refl _), if_pos hq]

theorem nodup_inj {α : Type} {l : List α} (h : l.Nodup) {i j : Nat} {hi : i < l.length} {hj : j < l.length} (e : l[i] = l[j]) : i = j := by
  have h2 := List.pairwise_iff_getElem.1 h
  rcases Nat.lt_trichotomy i j with h1 | h1 | h1
  · exact absurd e (h2 i j hi hj h1)
  · exact h1
  · exact absurd e.symm (h2 j i hj hi h1)

abbrev Puts := List (List Nat × Dyadic)
/-- What numbers at rows weigh. -/
def pairE (g : List Nat → Dyadic) : Puts → Dyadic
  | [] => 0
  | p :: ps => p.2 * g p.1 + pairE g ps
theorem pairE_append (g : List Nat → Dyadic) (a b : Puts) : pairE g (a ++ b) = pairE g a + pairE g b := by
  induction a with
  | nil => simp only [List.nil_append, pairE]; grind
  | cons p a ih => simp only [List.cons_append, pairE, ih]; grind
theorem pairE_range (g : List Nat → Dyadic) (r : Nat → List Nat) (c : Nat → Dyadic) (n : Nat) : pairE g ((List.range n).map fun k => (r k, c k)) = sumTo (fun k => c k * g (r k)) n := by
  induction n with
  | zero => rfl
  | succ n ih => rw [List.range_succ, List.map_append, pairE_append, ih, sumTo]; simp only [List.map_cons, List.map_nil, pairE]; grind
theorem pairE_flat (g : List Nat → Dyadic) (P : Nat → Puts) (n : Nat) : pairE g ((List.range n).flatMap P) = sumTo (fun k => pairE g (P k)) n := by
  induction n with
  | zero => rfl
  | succ n ih => rw [List.range_succ, List.flatMap_append, pairE_append, ih, sumTo]; simp only [List.flatMap_cons, List.flatMap_nil, List.append_nil]

def delta (r x : List Nat) : Dyadic := if x = r then 1 else 0
/-- The number at a row. -/
def coef (ps : Puts) (r : List Nat) : Dyadic := pairE (delta r) ps

/-- What a form weighs. -/
def zipE (h : List Nat → Dyadic) (R : List (List Nat)) (cs : List Dyadic) : Dyadic := sumTo (fun k => cs.getD k 0 * h (R.getD k [])) R.length
theorem zipE_congr {g h : List Nat → Dyadic} (R : List (List Nat)) (cs : List Dyadic) (hg : ∀ x ∈ R, g x = h x) : zipE g R cs = zipE h R cs := by
  refine sumTo_congr _ (fun k hk => ?_)
  rw [hg _ (by simp [hk])]
theorem zipE_coef (h : List Nat → Dyadic) (R : List (List Nat)) (hn : R.Nodup) (ps : Puts) (hp : ∀ p ∈ ps, p.1 ∈ R) : zipE h R (R.map (coef ps)) = pairE h ps := by
  have e : zipE h R (R.map (coef ps)) = sumTo (fun k => coef ps (R.getD k []) * h (R.getD k [])) R.length := by
    refine sumTo_congr _ (fun k hk => ?_)
    simp [hk]
  rw [e]
  clear e
  induction ps with
  | nil =>
    rw [sumTo_congr (g := fun _ => 0) _ (fun k _ => by simp only [coef, pairE]; grind), sumTo_zero]; rfl
  | cons p ps ih =>
    rw [sumTo_congr (g := fun k => p.2 * (delta (R.getD k []) p.1 * h (R.getD k [])) + coef ps (R.getD k []) * h (R.getD k [])) _ (fun k _ => by simp only [coef, pairE]; grind), sumTo_add, ih (fun q hq => hp q (by simp [hq])), sumTo_mul]
    obtain ⟨q, hq, hpq⟩ := List.mem_iff_getElem.1 (hp p (by simp))
    rw [sumTo_one _ q _ hq (fun k hk hne => by
      unfold delta
      have : p.1 ≠ R.getD k [] := by
        rw [← hpq]
        have e1 : R.getD k [] = R[k] := by simp [hk]
        rw [e1]
        intro e2
        exact hne (nodup_inj hn e2).symm
      rw [if_neg this]; grind)]
    have e1 : R.getD q [] = p.1 := by simp [hq, hpq]
    rw [e1]
    unfold delta
    rw [if_pos rfl]
    simp only [pairE]; grind
theorem zipE_add (h : List Nat → Dyadic) (R : List (List Nat)) (cs ds : List Dyadic) (hl : cs.length = ds.length) : zipE h R (List.zipWith (· + ·) cs ds) = zipE h R cs + zipE h R ds := by
  unfold zipE
  rw [← sumTo_add]
  refine sumTo_congr _ (fun k _ => ?_)
  have : (List.zipWith (· + ·) cs ds).getD k 0 = cs.getD k 0 + ds.getD k 0 := by
    by_cases hk : k < cs.length
    · simp only [List.getD_eq_getElem?_getD, List.getElem?_zipWith]
      simp [hk, show k < ds.length by omega]
    · have h1 : ¬ k < ds.length := by omega
      have z : (0 : Dyadic) + 0 = 0 := by grind
      simp only [List.getD_eq_getElem?_getD, List.getElem?_zipWith]
      simp [hk, h1, z]
  rw [this]; grind

/-- What lifting, and what splitting puts. -/
def liftR (x : List Nat) (c : Dyadic) : Puts := (List.range x.length).map fun k => (inc x k, c)
def halfR (i j : Nat) (x : List Nat) (c : Dyadic) : Puts := (List.range (x.getD i 0 + 1)).map fun t => (mv x i j t, c * chD (x.getD i 0) t * hp (x.getD j 0 + t))
def liftP (R : List (List Nat)) (cs : List Dyadic) : Puts := (List.range R.length).flatMap fun k => liftR (R.getD k []) (cs.getD k 0)
def halfP (i j : Nat) (R : List (List Nat)) (cs : List Dyadic) : Puts := (List.range R.length).flatMap fun k => halfR i j (R.getD k []) (cs.getD k 0)

theorem pair_lift (g : List Nat → Dyadic) (R : List (List Nat)) (cs : List Dyadic) : pairE g (liftP R cs) = zipE (liftG g) R cs := by
  unfold liftP
  rw [pairE_flat]
  refine sumTo_congr _ (fun k _ => ?_)
  unfold liftR
  rw [pairE_range, sumTo_mul]; rfl
theorem pair_half (i j : Nat) (g : List Nat → Dyadic) (R : List (List Nat)) (cs : List Dyadic) : pairE g (halfP i j R cs) = zipE (halfG i j g) R cs := by
  unfold halfP
  rw [pairE_flat]
  refine sumTo_congr _ (fun k _ => ?_)
  unfold halfR
  rw [pairE_range]
  unfold halfG
  rw [← sumTo_mul]
  refine sumTo_congr _ (fun t _ => ?_)
  grind

/-- The form over the rows. -/
def colL (R : List (List Nat)) (ps : Puts) : List Dyadic := R.map (coef ps)
theorem colL_length (R : List (List Nat)) (ps : Puts) : (colL R ps).length = R.length := by simp [colL]

theorem split_lift (i j n : Nat) (R R' : List (List Nat)) (cs : List Dyadic) (hij : i ≠ j) (hi : i < n) (hj : j < n) (hR : R.Nodup) (hR' : R'.Nodup) (hn : ∀ x ∈ R, x.length = n)
    (h1 : ∀ x ∈ R, ∀ k, k < n → inc x k ∈ R') (h2 : ∀ x ∈ R, ∀ t, t ≤ x.getD i 0 → mv x i j t ∈ R) :
    colL R' (halfP i j R' (colL R' (liftP R cs))) = colL R' (liftP R (colL R (halfP i j R cs))) := by
  unfold colL
  refine List.map_congr_left (fun r _ => ?_)
  unfold coef
  rw [pair_half, pair_lift]
  rw [show (R'.map fun r => pairE (delta r) (liftP R cs)) = R'.map (coef (liftP R cs)) from rfl, show (R.map fun r => pairE (delta r) (halfP i j R cs)) = R.map (coef (halfP i j R cs)) from rfl]
  rw [zipE_coef _ R' hR', zipE_coef _ R hR, pair_lift, pair_half]
  · exact zipE_congr R cs (fun x hx => lift_half i j _ x hij (by rw [hn x hx]; exact hi) (by rw [hn x hx]; exact hj))
  · intro p hp
    unfold halfP at hp
    rw [List.mem_flatMap] at hp
    obtain ⟨k, hk, hp⟩ := hp
    rw [List.mem_range] at hk
    unfold halfR at hp
    rw [List.mem_map] at hp
    obtain ⟨t, ht, rfl⟩ := hp
    rw [List.mem_range] at ht
    exact h2 _ (by simp [hk]) t (by omega)
  · intro p hp
    unfold liftP at hp
    rw [List.mem_flatMap] at hp
    obtain ⟨k, hk, hp⟩ := hp
    rw [List.mem_range] at hk
    unfold liftR at hp
    rw [List.mem_map] at hp
    obtain ⟨t, ht, rfl⟩ := hp
    rw [List.mem_range] at ht
    have hm : R.getD k [] ∈ R := by simp [hk]
    exact h1 _ hm t (by rw [hn _ hm] at ht; exact ht)

theorem split_add (i j : Nat) (R : List (List Nat)) (cs ds : List Dyadic) (hl : cs.length = ds.length) :
    colL R (halfP i j R (List.zipWith (· + ·) cs ds)) = List.zipWith (· + ·) (colL R (halfP i j R cs)) (colL R (halfP i j R ds)) := by
  apply List.ext_getElem (by simp [colL])
  intro k hk _
  simp only [colL, List.getElem_map, List.getElem_zipWith]
  unfold coef
  rw [pair_half, pair_half, pair_half, zipE_add _ _ _ _ hl]

/-- The number at the row whose place n holds all. -/
def cornW (n d : Nat) (x : List Nat) : Dyadic := if x.getD n 0 = d then 1 else 0

theorem sum_set (x : List Nat) (k v : Nat) (hk : k < x.length) : (x.set k v).sum + x.getD k 0 = x.sum + v := by
  induction x generalizing k with
  | nil => simp at hk
  | cons a x ih =>
    cases k with
    | zero => simp; omega
    | succ k =>
      have := ih k (by simpa using hk)
      simp at this ⊢; omega
theorem getD_le_sum (x : List Nat) (k : Nat) : x.getD k 0 ≤ x.sum := by
  induction x generalizing k with
  | nil => simp
  | cons a x ih =>
    cases k with
    | zero => simp
    | succ k => have := ih k; simp at this ⊢; omega
theorem getD_two_le (x : List Nat) (k l : Nat) (h : k ≠ l) : x.getD k 0 + x.getD l 0 ≤ x.sum := by
  induction x generalizing k l with
  | nil => simp
  | cons a x ih =>
    cases k with
    | zero => cases l with
      | zero => omega
      | succ l => have := getD_le_sum x l; simp at this ⊢; omega
    | succ k => cases l with
      | zero => have := getD_le_sum x k; simp at this ⊢; omega
      | succ l => have := ih k l (by omega); simp at this ⊢; omega
theorem inc_sum (x : List Nat) (k : Nat) (hk : k < x.length) : (inc x k).sum = x.sum + 1 := by
  have := sum_set x k (x.getD k 0 + 1) hk
  unfold inc; omega
theorem mv_sum (x : List Nat) (i j t : Nat) (hij : i ≠ j) (hi : i < x.length) (hj : j < x.length) (ht : t ≤ x.getD i 0) : (mv x i j t).sum = x.sum := by
  have h1 := sum_set x i (x.getD i 0 - t) hi
  have h2 := sum_set (x.set i (x.getD i 0 - t)) j (x.getD j 0 + t) (by simpa using hj)
  rw [getD_set _ _ _ _ hi, if_neg hij] at h2
  unfold mv; omega

theorem lift_corner (n d : Nat) (x : List Nat) (hn : n < x.length) (hd : x.sum = d) : liftG (cornW n (d + 1)) x = cornW n d x := by
  unfold liftG
  rw [sumTo_one _ n _ hn (fun k hk hne => by
    unfold cornW
    rw [if_neg]
    have h1 := getD_two_le (inc x k) k n hne
    rw [inc_sum x k hk, getD_inc _ _ _ hk, if_pos rfl] at h1
    omega)]
  unfold cornW
  rw [getD_inc _ _ _ hn, if_pos rfl]
  by_cases h : x.getD n 0 = d
  · rw [if_pos h, if_pos (by omega)]
  · rw [if_neg h, if_neg (by omega)]

/-- The corner's number, found by going through the rows. -/
def cornTo (n d : Nat) (R : List (List Nat)) (cs : List Dyadic) : Nat → Dyadic
  | 0 => 0
  | k + 1 => if (R.getD k []).getD n 0 = d then cs.getD k 0 else cornTo n d R cs k

theorem corner_row {x y : List Nat} {n d : Nat} (hl : x.length = y.length) (hx : x.sum = d) (hy : y.sum = d) (h1 : x.getD n 0 = d) (h2 : y.getD n 0 = d) : x = y := by
  refine ext_getD hl (fun l _ => ?_)
  by_cases e : n = l
  · subst e; rw [h1, h2]
  · have := getD_two_le x n l e; have := getD_two_le y n l e; omega

theorem cornTo_eq (n d m : Nat) (R : List (List Nat)) (cs : List Dyadic) (hR : R.Nodup) (hn : ∀ x ∈ R, x.length = m ∧ x.sum = d) : cornTo n d R cs R.length = zipE (cornW n d) R cs := by
  by_cases h : ∃ q, q < R.length ∧ (R.getD q []).getD n 0 = d
  · obtain ⟨q, hq, hqd⟩ := h
    have huniq : ∀ k, k < R.length → (R.getD k []).getD n 0 = d → k = q := by
      intro k hk hkd
      have m1 : R.getD k [] ∈ R := by simp [hk]
      have m2 : R.getD q [] ∈ R := by simp [hq]
      have := corner_row ((hn _ m1).1.trans (hn _ m2).1.symm) (hn _ m1).2 (hn _ m2).2 hkd hqd
      have e1 : R.getD k [] = R[k] := by simp [hk]
      have e2 : R.getD q [] = R[q] := by simp [hq]
      rw [e1, e2] at this
      exact nodup_inj hR this
    have hc : ∀ k, k ≤ R.length → cornTo n d R cs k = if q < k then cs.getD q 0 else 0 := by
      intro k
      induction k with
      | zero => intro _; simp [cornTo]
      | succ k ih =>
        intro hk
        rw [cornTo, ih (by omega)]
        by_cases hkd : (R.getD k []).getD n 0 = d
        · rw [if_pos hkd]; obtain rfl := huniq k (by omega) hkd; simp
        · rw [if_neg hkd]
          have : k ≠ q := fun e => hkd (by rw [e]; exact hqd)
          rw [ite_succ q k this]
    rw [hc _ (Nat.le_refl _), if_pos hq]
    unfold zipE
    rw [sumTo_one _ q _ hq (fun k hk hne => by
      unfold cornW
      rw [if_neg (fun e => hne (huniq k hk e))]; grind)]
    unfold cornW
    rw [if_pos hqd]; grind
  · have h2 : ∀ k, k < R.length → ¬ (R.getD k []).getD n 0 = d := fun k hk e => h ⟨k, hk, e⟩
    have hc : ∀ k, k ≤ R.length → cornTo n d R cs k = 0 := by
      intro k
      induction k with
      | zero => intro _; rfl
      | succ k ih => intro hk; rw [cornTo, if_neg (h2 k (by omega)), ih (by omega)]
    rw [hc _ (Nat.le_refl _)]
    unfold zipE
    rw [sumTo_congr (g := fun _ => 0) _ (fun k hk => by unfold cornW; rw [if_neg (h2 k hk)]; grind), sumTo_zero]

theorem corner_lift (n d m : Nat) (R R' : List (List Nat)) (cs : List Dyadic) (hnm : n < m) (hR : R.Nodup) (hR' : R'.Nodup) (hn : ∀ x ∈ R, x.length = m ∧ x.sum = d) (hn' : ∀ x ∈ R', x.length = m ∧ x.sum = d + 1)
    (h1 : ∀ x ∈ R, ∀ k, k < m → inc x k ∈ R') : cornTo n (d + 1) R' (colL R' (liftP R cs)) R'.length = cornTo n d R cs R.length := by
  rw [cornTo_eq n (d + 1) m R' _ hR' hn', cornTo_eq n d m R cs hR hn]
  unfold colL
  rw [zipE_coef _ R' hR', pair_lift]
  · exact zipE_congr R cs (fun x hx => lift_corner n d x (by rw [(hn x hx).1]; exact hnm) (hn x hx).2)
  · intro p hp
    unfold liftP at hp
    rw [List.mem_flatMap] at hp
    obtain ⟨k, hk, hp⟩ := hp
    rw [List.mem_range] at hk
    unfold liftR at hp
    rw [List.mem_map] at hp
    obtain ⟨t, ht, rfl⟩ := hp
    rw [List.mem_range] at ht
    have hm : R.getD k [] ∈ R := by simp [hk]
    exact h1 _ hm t (by rw [(hn _ hm).1] at ht; exact ht)
end Go.Proofs.YtidjljldhdckiaaGreatDoor
