/- The rows: which they are, none twice; where each stands among the keys; numbers put one behind the other. No walk here. -/
import Derived.Test.YtidjljldhdckiaaGreatDoorJLaw17
import Derived.Test.YtidjljldhdckiaaGreatDoorJScast1
namespace Go.Proofs.YtidjljldhdckiaaGreatDoor

theorem mem_rowsL (n s : Nat) (x : List Nat) : x ∈ rowsL (n + 1) s ↔ x.length = n + 1 ∧ x.sum = s := by
  induction n generalizing s x with
  | zero =>
    simp only [rowsL, List.mem_singleton]
    constructor
    · rintro rfl; simp
    · rintro ⟨h1, h2⟩
      match x, h1, h2 with
      | [a], _, h2 => simp at h2; rw [h2]
  | succ n ih =>
    simp only [rowsL, List.mem_flatMap, List.mem_map, List.mem_range]
    constructor
    · rintro ⟨i, hi, y, hy, rfl⟩
      obtain ⟨h1, h2⟩ := (ih i y).1 hy
      exact ⟨by simp [h1], by simp [h2]; omega⟩
    · rintro ⟨h1, h2⟩
      match x, h1, h2 with
      | a :: y, h1, h2 =>
        simp at h1 h2
        exact ⟨y.sum, by omega, y, (ih _ y).2 ⟨by omega, rfl⟩, by congr 1; omega⟩
theorem rowsL_nodup (n s : Nat) : (rowsL (n + 1) s).Nodup := by
  induction n generalizing s with
  | zero => simp [rowsL]
  | succ n ih =>
    unfold rowsL List.Nodup
    rw [List.pairwise_flatMap]
    refine ⟨fun i _ => ?_, ?_⟩
    · rw [List.pairwise_map]
      exact (ih i).imp (fun h e => h (by simpa using e))
    · have h0 : (List.range (s + 1)).Pairwise (· < ·) := List.pairwise_lt_range
      refine List.Pairwise.imp_of_mem ?_ h0
      intro a b ha hb hab x hx y hy e
      rw [List.mem_range] at ha hb
      rw [List.mem_map] at hx hy
      obtain ⟨_, _, rfl⟩ := hx
      obtain ⟨_, _, rfl⟩ := hy
      simp at e
      omega

theorem bytes_inj {x y : List Nat} (hx : ∀ a ∈ x, a ≤ 255) (hy : ∀ a ∈ y, a ≤ 255) (h : x.map UInt8.ofNat = y.map UInt8.ofNat) : x = y := by
  induction x generalizing y with
  | nil => cases y with
    | nil => rfl
    | cons b y => simp at h
  | cons a x ih => cases y with
    | nil => simp at h
    | cons b y =>
      simp only [List.map_cons, List.cons.injEq] at h
      have h1 := congrArg UInt8.toNat h.1
      simp at h1
      have := hx a (by simp); have := hy b (by simp)
      rw [ih (fun c hc => hx c (by simp [hc])) (fun c hc => hy c (by simp [hc])) h.2]
      congr 1; omega
theorem mem_le_sum {x : List Nat} {a : Nat} (h : a ∈ x) : a ≤ x.sum := by
  induction x with
  | nil => cases h
  | cons b x ih =>
    rw [List.mem_cons] at h
    rcases h with rfl | h
    · simp
    · have := ih h; simp; omega
theorem rows_small {n s : Nat} (hs : s ≤ 255) {x : List Nat} (h : x ∈ rowsL (n + 1) s) : ∀ a ∈ x, a ≤ 255 := by
  intro a ha
  have := mem_le_sum ha
  have := ((mem_rowsL n s x).1 h).2
  omega
theorem keys_nodup {n s : Nat} (hs : s ≤ 255) : ((rowsL (n + 1) s).map fun x => x.map UInt8.ofNat).Nodup := by
  unfold List.Nodup
  rw [List.pairwise_map]
  refine List.Pairwise.imp_of_mem ?_ (rowsL_nodup n s)
  intro a b ha hb hab e
  exact hab (bytes_inj (rows_small hs ha) (rows_small hs hb) e)
theorem place_at (xs : List (List UInt8)) (hn : xs.Nodup) (k q : Nat) (hq : q < k) (hk : k ≤ xs.length) : place xs k (xs[q]'(by omega)) = q := by
  induction k with
  | zero => omega
  | succ k ih =>
    rw [place]
    have e : xs.getD k [] = xs[k] := by simp [show k < xs.length by omega]
    rw [e]
    by_cases h : q = k
    · subst h; simp
    · rw [if_neg (fun e2 => h (nodup_inj hn e2)), ih (by omega) (by omega)]
/-- Where a row stands. -/
theorem place_row {n s : Nat} (hs : s ≤ 255) {x : List Nat} (h : x ∈ rowsL (n + 1) s) :
    ∃ q, ∃ h : q < (rowsL (n + 1) s).length, (rowsL (n + 1) s)[q] = x ∧ place ((rowsL (n + 1) s).map fun x => x.map UInt8.ofNat) (rowsL (n + 1) s).length (x.map UInt8.ofNat) = q := by
  obtain ⟨q, hq, rfl⟩ := List.mem_iff_getElem.1 h
  refine ⟨q, hq, rfl, ?_⟩
  have := place_at _ (keys_nodup (n := n) hs) (rowsL (n + 1) s).length q hq (by simp)
  simpa using this

/-- All numbers put, one behind the other. -/
def putAll (f : List UInt8 → Nat) (ds : List Dyadic) (ps : Puts) : List Dyadic := ps.foldl (fun ds p => addAt ds (f (p.1.map UInt8.ofNat)) p.2) ds
theorem putAll_append (f : List UInt8 → Nat) (ds : List Dyadic) (a b : Puts) : putAll f ds (a ++ b) = putAll f (putAll f ds a) b := by simp [putAll]
theorem putAll_length (f : List UInt8 → Nat) (ds : List Dyadic) (ps : Puts) : (putAll f ds ps).length = ds.length := by
  induction ps generalizing ds with
  | nil => rfl
  | cons p ps ih => exact (ih _).trans (addAt_length _ _ _)
theorem putAll_sm {B : Nat} (f : List UInt8 → Nat) (ds : List Dyadic) (ps : Puts) (hd : ∀ d ∈ ds, Sm B d) (hp : ∀ p ∈ ps, Sm B p.2) : ∀ d ∈ putAll f ds ps, Sm (B + ps.length) d := by
  induction ps generalizing ds B with
  | nil => exact hd
  | cons p ps ih =>
    have := ih (B := B + 1) (addAt ds (f (p.1.map UInt8.ofNat)) p.2) (addAt_sm hd _ (hp p (by simp))) (fun q hq => (hp q (by simp [hq])).mono (by omega))
    intro d hdd
    have h1 := this d hdd
    simp only [List.length_cons]
    rw [show B + (ps.length + 1) = B + 1 + ps.length by omega]
    exact h1
theorem putAll_get (R : List (List Nat)) (hR : R.Nodup) (f : List UInt8 → Nat) (hf : ∀ x ∈ R, ∃ q, ∃ h : q < R.length, R[q] = x ∧ f (x.map UInt8.ofNat) = q) (ps : Puts) (hp : ∀ p ∈ ps, p.1 ∈ R) (ds : List Dyadic) (hd : ds.length = R.length) :
    putAll f ds ps = List.zipWith (· + ·) ds (colL R ps) := by
  induction ps generalizing ds with
  | nil =>
    apply List.ext_getElem (by simp [putAll, colL, hd])
    intro k h1 h2
    simp [putAll, colL, coef, pairE]
  | cons p ps ih =>
    have e : putAll f ds (p :: ps) = putAll f (addAt ds (f (p.1.map UInt8.ofNat)) p.2) ps := rfl
    rw [e, ih (fun q hq => hp q (by simp [hq])) _ (by rw [addAt_length, hd])]
    obtain ⟨q, hq, e1, e2⟩ := hf _ (hp p (by simp))
    rw [e2]
    apply List.ext_getElem (by simp [colL, addAt_length])
    intro k h1 h2
    have hk : k < ds.length := by simp [colL, addAt_length] at h1; omega
    simp only [colL, List.getElem_zipWith, List.getElem_map]
    have e3 : (addAt ds q p.2)[k]'(by rw [addAt_length]; exact hk) = ds[k] + p.2 * delta (R[k]'(by omega)) p.1 := by
      unfold addAt delta
      rw [List.getElem_set]
      by_cases h : q = k
      · subst h; rw [if_pos rfl, if_pos e1.symm]; simp [hk]; grind
      · rw [if_neg h, if_neg (fun h2 => h (nodup_inj hR (e1.trans h2)))]; grind
    rw [e3]
    unfold coef
    simp only [pairE]; grind
theorem putAll_zero (R : List (List Nat)) (hR : R.Nodup) (f : List UInt8 → Nat) (hf : ∀ x ∈ R, ∃ q, ∃ h : q < R.length, R[q] = x ∧ f (x.map UInt8.ofNat) = q) (ps : Puts) (hp : ∀ p ∈ ps, p.1 ∈ R) :
    putAll f (List.replicate R.length 0) ps = colL R ps := by
  rw [putAll_get R hR f hf ps hp _ (by simp)]
  apply List.ext_getElem (by simp [colL])
  intro k h1 h2
  simp
theorem inc_bytes (x : List Nat) (k : Nat) (hk : k < x.length) : (x.map UInt8.ofNat).set k ((x.map UInt8.ofNat).getD k 0 + 1) = (inc x k).map UInt8.ofNat := by
  unfold inc
  rw [List.map_set]
  congr 1
  simp [hk]
theorem liftTo_put (f : List UInt8 → Nat) (x : List Nat) (c : Dyadic) (ds : List Dyadic) (k : Nat) (hk : k ≤ x.length) : liftTo f (x.map UInt8.ofNat) c ds k = putAll f ds ((List.range k).map fun k => (inc x k, c)) := by
  induction k with
  | zero => rfl
  | succ k ih =>
    rw [liftTo, ih (by omega), List.range_succ, List.map_append, putAll_append, inc_bytes x k (by omega)]
    rfl
end Go.Proofs.YtidjljldhdckiaaGreatDoor
