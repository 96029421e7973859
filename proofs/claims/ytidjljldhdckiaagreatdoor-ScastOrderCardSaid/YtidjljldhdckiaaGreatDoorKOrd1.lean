/- The contracts of package scast, said of forms by their numbers; how great the numbers may come to be. -/
import Derived.Test.YtidjljldhdckiaaGreatDoorJLawA
namespace Go.Proofs.YtidjljldhdckiaaGreatDoor
open Go.RowKit

theorem delta_sm {B : Nat} {c : Dyadic} (h : Sm B c) (r x : List Nat) : Sm B (c * delta r x) := by
  unfold delta
  split
  · rw [Dyadic.mul_one]; exact h
  · rw [Dyadic.mul_zero]; exact Sm.zero B
theorem coef_sm {B : Nat} (r : List Nat) (ps : Puts) (h : ∀ p ∈ ps, Sm B p.2) : Sm (B + ps.length) (coef ps r) := by
  unfold coef
  induction ps with
  | nil => exact Sm.zero _
  | cons p ps ih =>
    have h1 := ih (fun q hq => h q (by simp [hq]))
    have h2 := delta_sm (h p (by simp)) r p.1
    have h3 := Sm.add (h2.mono (show B ≤ B + ps.length by omega)) h1
    rw [List.length_cons, ← Nat.add_assoc]
    exact h3
theorem colL_sm {B C : Nat} (R : List (List Nat)) (ps : Puts) (h : ∀ p ∈ ps, Sm B p.2) (hC : B + ps.length ≤ C) : ∀ d ∈ colL R ps, Sm C d := by
  intro d hd
  unfold colL at hd
  rw [List.mem_map] at hd
  obtain ⟨r, _, rfl⟩ := hd
  exact (coef_sm r ps h).mono hC

theorem getD_sm {B : Nat} {cs : List Dyadic} (h : ∀ c ∈ cs, Sm B c) (k : Nat) : Sm B (cs.getD k 0) := by
  by_cases hk : k < cs.length
  · have : cs.getD k 0 = cs[k] := by simp [hk]
    rw [this]; exact h _ (List.getElem_mem hk)
  · have : cs.getD k 0 = 0 := by simp [List.getD_eq_getElem?_getD, List.getElem?_eq_none (by omega : cs.length ≤ k)]
    rw [this]; exact Sm.zero B

theorem halfL_sm {B V D i j : Nat} {cs : List Dyadic} (h : ∀ c ∈ cs, Sm B c) (hD : D ≤ 20) (hc : cnt V D ≤ 512) (hij : i ≠ j) : ∀ d ∈ halfL V D i j cs, Sm (B + 10794) d := by
  have hRl : (rowsL (V + 1) D).length = cnt V D := rowsL_count V D
  have hm : ∀ x ∈ rowsL (V + 1) D, x.sum = D := fun x hx => ((mem_rowsL V D x).1 hx).2
  unfold halfL
  generalize rowsL (V + 1) D = R at *
  have e : halfP i j R cs = putsTo (fun k => halfR i j (R.getD k []) (cs.getD k 0)) R.length := rfl
  have hs : ∀ k, k < R.length → (R.getD k []).sum = D := fun k hk => by
    have : R.getD k [] = R[k] := by simp [hk]
    rw [this]; exact hm _ (List.getElem_mem hk)
  have hl := putsTo_len (fun k => halfR i j (R.getD k []) (cs.getD k 0)) 21 R.length R.length (Nat.le_refl _) (fun k hk => by
    have h1 := hs k hk
    have h2 := getD_le_sum (R.getD k []) i
    rw [halfR_len]; omega)
  refine colL_sm (B := B + 42) R _ ?_ ?_
  · rw [e]
    refine putsTo_all _ R.length R.length (Nat.le_refl _) (fun k hk => ?_)
    rw [halfR_halfTo]
    exact halfTo_sm (getD_sm h k) (by rw [hs k hk]; exact hD) hij (Nat.le_refl _) _ (Nat.le_refl _)
  · rw [e]; omega

theorem liftL_sm {B V D : Nat} {cs : List Dyadic} (h : ∀ c ∈ cs, Sm B c) (hV : V ≤ 8) (hc : cnt V D ≤ 512) : ∀ d ∈ liftL V D cs, Sm (B + 4608) d := by
  have hRl : (rowsL (V + 1) D).length = cnt V D := rowsL_count V D
  have hm : ∀ x ∈ rowsL (V + 1) D, x.length = V + 1 := fun x hx => ((mem_rowsL V D x).1 hx).1
  unfold liftL
  generalize rowsL (V + 1) D = R at *
  have e : liftP R cs = putsTo (fun k => liftR (R.getD k []) (cs.getD k 0)) R.length := rfl
  have hs : ∀ k, k < R.length → (R.getD k []).length = V + 1 := fun k hk => by
    have : R.getD k [] = R[k] := by simp [hk]
    rw [this]; exact hm _ (List.getElem_mem hk)
  have hl := putsTo_len (fun k => liftR (R.getD k []) (cs.getD k 0)) 9 R.length R.length (Nat.le_refl _) (fun k hk => by
    rw [liftR_len, hs k hk]; omega)
  refine colL_sm (B := B) _ _ ?_ ?_
  · rw [e]
    refine putsTo_all _ R.length R.length (Nat.le_refl _) (fun k hk p hp => ?_)
    unfold liftR at hp
    rw [List.mem_map] at hp
    obtain ⟨t, _, rfl⟩ := hp
    exact getD_sm h k
  · rw [e]; omega
theorem zip_sm {B : Nat} {cs ds : List Dyadic} (h : ∀ c ∈ cs, Sm B c) (h' : ∀ c ∈ ds, Sm B c) : ∀ c ∈ List.zipWith (· + ·) cs ds, Sm (B + 1) c := by
  intro c hc
  rw [List.mem_iff_getElem] at hc
  obtain ⟨k, hk, rfl⟩ := hc
  rw [List.length_zipWith] at hk
  rw [List.getElem_zipWith]
  exact Sm.add (h _ (List.getElem_mem (by omega))) (h' _ (List.getElem_mem (by omega)))

theorem halfL_len (V D i j : Nat) (cs : List Dyadic) : (halfL V D i j cs).length = cnt V D := by unfold halfL; rw [colL_length, rowsL_count]
theorem liftL_len (V D : Nat) (cs : List Dyadic) : (liftL V D cs).length = cnt V (D + 1) := by unfold liftL; rw [colL_length, rowsL_count]

theorem canon_fit {B : Nat} {cs : List Dyadic} (h : ∀ c ∈ cs, Sm B c) (hB : B ≤ 268435456) : ∀ x ∈ cs.map canon, Fit B x := by
  intro x hx
  rw [List.mem_map] at hx
  obtain ⟨c, hc, rfl⟩ := hx
  exact (h c hc).fit hB

theorem split_raw (V D : Nat) (v d : Int) (hv : (V : Int) = v) (hd : (D : Int) = d) (a : Option Addr) (cap N : Nat) (raws : List Raw) (hN : raws.length = N) (cs : List Dyadic) (hcs : raws.map dval = cs) (I J : Nat) (i j : Int) (hI : (I : Int) = i) (hJ : (J : Int) = j) (B : Nat) (w : World) (hc : chk v d N = 0) (hi : I ≤ V) (hj : J ≤ V) (hij : I ≠ J)
    (hfit : ∀ x ∈ raws, Fit B x) (hBB : B ≤ 1000000) (ha : At w a (raws.flatMap numC)) (hT : Tab w) :
    Calls Tryz.prog 7 #[.agg #[.int .i64 v, .int .i64 d, .slice a N cap], .int .i64 i, .int .i64 j] w fun e w' => ∃ r s,
      e = .returned (.tuple #[.agg #[.int .i64 v, .int .i64 d, .slice (some ⟨r, 0, none⟩) N N], .agg #[.int .i64 v, .int .i64 d, .slice (some ⟨s, 0, none⟩) N N], .int .i64 0]) ∧
        At w' (some ⟨r, 0, none⟩) (dC (halfL V D I J cs)) ∧ At w' (some ⟨s, 0, none⟩) (dC (halfL V D J I cs)) ∧ Below w.heap.size w w' := by
  subst hv hd hN hcs hI hJ
  exact (split_ok V D a cap raws I J B w hc hi hj hij hfit hBB ha hT).mono (fun e w' ⟨r, s, he, hr, hs, _, _, hb⟩ => ⟨r, s, he, At.of_blk hr, At.of_blk hs, hb⟩)

theorem split_dy (V D : Nat) (v d : Int) (hv : (V : Int) = v) (hd : (D : Int) = d) (a : Option Addr) (cap N : Nat) (cs : List Dyadic) (hN : cs.length = N) (I J : Nat) (i j : Int) (hI : (I : Int) = i) (hJ : (J : Int) = j) (B : Nat) (w : World) (hc : chk v d N = 0) (hi : I ≤ V) (hj : J ≤ V) (hij : I ≠ J)
    (hs : ∀ c ∈ cs, Sm B c) (hBB : B ≤ 1000000) (ha : At w a (dC cs)) (hT : Tab w) :
    Calls Tryz.prog 7 #[.agg #[.int .i64 v, .int .i64 d, .slice a N cap], .int .i64 i, .int .i64 j] w fun e w' => ∃ r s,
      e = .returned (.tuple #[.agg #[.int .i64 v, .int .i64 d, .slice (some ⟨r, 0, none⟩) N N], .agg #[.int .i64 v, .int .i64 d, .slice (some ⟨s, 0, none⟩) N N], .int .i64 0]) ∧
        At w' (some ⟨r, 0, none⟩) (dC (halfL V D I J cs)) ∧ At w' (some ⟨s, 0, none⟩) (dC (halfL V D J I cs)) ∧ Below w.heap.size w w' :=
  split_raw V D v d hv hd a cap N (cs.map canon) (by rw [List.length_map]; exact hN) cs (dval_raws cs) I J i j hI hJ B w hc hi hj hij (canon_fit hs (by omega)) hBB (by rw [← dC_raws]; exact ha) hT

theorem lift_raw (V D : Nat) (v d d1 : Int) (hv : (V : Int) = v) (hd : (D : Int) = d) (hd1 : ((D + 1 : Nat) : Int) = d1) (a : Option Addr) (cap N M : Nat) (raws : List Raw) (hN : raws.length = N) (hM : cnt V (D + 1) = M) (cs : List Dyadic) (hcs : raws.map dval = cs) (B : Nat) (w : World) (hc : chk v d N = 0) (hD : D < 20) (hc1 : M ≤ 512)
    (hfit : ∀ x ∈ raws, Fit B x) (hBB : B ≤ 1000000) (ha : At w a (raws.flatMap numC)) (hT : Tab w) :
    Calls Tryz.prog 8 #[.agg #[.int .i64 v, .int .i64 d, .slice a N cap]] w fun e w' => ∃ r,
      e = .returned (.tuple #[.agg #[.int .i64 v, .int .i64 d1, .slice (some ⟨r, 0, none⟩) M M], .int .i64 0]) ∧ At w' (some ⟨r, 0, none⟩) (dC (liftL V D cs)) ∧ Below w.heap.size w w' := by
  subst hv hd hd1 hN hcs hM
  exact (lift_ok V D a cap raws B w hc hD hc1 hfit hBB ha hT).mono (fun e w' ⟨r, he, hr, _, hb⟩ => ⟨r, he, At.of_blk hr, hb⟩)

theorem lift_dy (V D : Nat) (v d d1 : Int) (hv : (V : Int) = v) (hd : (D : Int) = d) (hd1 : ((D + 1 : Nat) : Int) = d1) (a : Option Addr) (cap N M : Nat) (cs : List Dyadic) (hN : cs.length = N) (hM : cnt V (D + 1) = M) (B : Nat) (w : World) (hc : chk v d N = 0) (hD : D < 20) (hc1 : M ≤ 512)
    (hs : ∀ c ∈ cs, Sm B c) (hBB : B ≤ 1000000) (ha : At w a (dC cs)) (hT : Tab w) :
    Calls Tryz.prog 8 #[.agg #[.int .i64 v, .int .i64 d, .slice a N cap]] w fun e w' => ∃ r,
      e = .returned (.tuple #[.agg #[.int .i64 v, .int .i64 d1, .slice (some ⟨r, 0, none⟩) M M], .int .i64 0]) ∧ At w' (some ⟨r, 0, none⟩) (dC (liftL V D cs)) ∧ Below w.heap.size w w' :=
  lift_raw V D v d d1 hv hd hd1 a cap N M (cs.map canon) (by rw [List.length_map]; exact hN) hM cs (dval_raws cs) B w hc hD hc1 (canon_fit hs (by omega)) hBB (by rw [← dC_raws]; exact ha) hT

/-- Lift answers, whatever. -/
theorem lift_some (V D : Nat) (v d : Int) (hv : (V : Int) = v) (hd : (D : Int) = d) (a : Option Addr) (cap N : Nat) (raws : List Raw) (hN : raws.length = N) (B : Nat) (w : World) (hc : chk v d N = 0) (hD : D < 20)
    (hfit : ∀ x ∈ raws, Fit B x) (hBB : B ≤ 1000000) (ha : At w a (raws.flatMap numC)) (hT : Tab w) :
    Calls Tryz.prog 8 #[.agg #[.int .i64 v, .int .i64 d, .slice a N cap]] w fun e w' => ∃ v' d' a' n' cap' c,
      e = .returned (.tuple #[.agg #[.int .i64 v', .int .i64 d', .slice a' n' cap'], .int .i64 c]) ∧ Below w.heap.size w w' := by
  subst hv hd hN
  by_cases hk : cnt V (D + 1) ≤ 512
  · exact (lift_ok V D a cap raws B w hc hD hk hfit hBB ha hT).mono (fun e w' ⟨r, he, _, _, hb⟩ => ⟨_, _, _, _, _, _, he, hb⟩)
  · exact (lift_lim V D a _ cap w hc hD hk).mono (fun e w' ⟨he, hb⟩ => ⟨_, _, _, _, _, _, he, hb⟩)

theorem corner_raw (V D : Nat) (v d : Int) (hv : (V : Int) = v) (hd : (D : Int) = d) (a : Option Addr) (cap N : Nat) (raws : List Raw) (hN : raws.length = N) (cs : List Dyadic) (hcs : raws.map dval = cs) (J : Nat) (B : Nat) (C : Dyadic) (w : World) (hc : chk v d N = 0) (hj : J ≤ V)
    (hC : cornTo J D (rowsL (V + 1) D) cs (rowsL (V + 1) D).length = C) (hfit : ∀ x ∈ raws, Fit B x) (ha : At w a (raws.flatMap numC)) (hT : Tab w) :
    Calls Tryz.prog 10 #[.agg #[.int .i64 v, .int .i64 d, .slice a N cap], .int .i64 (J : Int)] w fun e w' => e = .returned (.tuple #[numV C, .int .i64 0]) ∧ Below w.heap.size w w' := by
  have hl : (rowsL (V + 1) D).length = raws.length := by
    have h := chk_ok hc
    rw [rowsL_count, hN, h.2.2.2.2.1]
    congr 1 <;> omega
  subst hv hd hN hcs
  rw [hl] at hC
  subst hC
  exact corner_ok V D a cap raws J w hc hj (fun x hx => (hfit x hx).1) ha hT

theorem corner_dy (V D : Nat) (v d : Int) (hv : (V : Int) = v) (hd : (D : Int) = d) (a : Option Addr) (cap N : Nat) (cs : List Dyadic) (hN : cs.length = N) (J : Nat) (B : Nat) (C : Dyadic) (w : World) (hc : chk v d N = 0) (hj : J ≤ V)
    (hC : cornTo J D (rowsL (V + 1) D) cs (rowsL (V + 1) D).length = C) (hs : ∀ c ∈ cs, Sm B c) (hBB : B ≤ 1000000) (ha : At w a (dC cs)) (hT : Tab w) :
    Calls Tryz.prog 10 #[.agg #[.int .i64 v, .int .i64 d, .slice a N cap], .int .i64 (J : Int)] w fun e w' => e = .returned (.tuple #[numV C, .int .i64 0]) ∧ Below w.heap.size w w' :=
  corner_raw V D v d hv hd a cap N (cs.map canon) (by rw [List.length_map]; exact hN) cs (dval_raws cs) J B C w hc hj hC (canon_fit hs (by omega)) (by rw [← dC_raws]; exact ha) hT

theorem lift_limd (V D : Nat) (v d : Int) (hv : (V : Int) = v) (hd : (D : Int) = d) (a : Option Addr) (cap N : Nat) (w : World) (hc : chk v d N = 0) (hD : D < 20) (hk : ¬ cnt V (D + 1) ≤ 512) :
    Calls Tryz.prog 8 #[.agg #[.int .i64 v, .int .i64 d, .slice a N cap]] w fun e w' => e = .returned (.tuple #[sf0, .int .i64 3]) ∧ Below w.heap.size w w' := by
  subst hv hd
  exact lift_lim V D a N cap w hc hD hk

theorem add_raw (V D : Nat) (v d v' d' : Int) (hv : (V : Int) = v) (hd : (D : Int) = d) (hv' : (V : Int) = v') (hd' : (D : Int) = d') (a a' : Option Addr) (cap cap' N N' : Nat) (raws raws' : List Raw) (hN : raws.length = N) (hN' : raws'.length = N') (hNN : N' = N) (cs cs' : List Dyadic) (hcs : raws.map dval = cs) (hcs' : raws'.map dval = cs') (B : Nat) (w : World) (hc : chk v d N = 0)
    (hfit : ∀ x ∈ raws, Fit B x) (hfit' : ∀ x ∈ raws', Fit B x) (hBB : B ≤ 1000000) (ha : At w a (raws.flatMap numC)) (ha' : At w a' (raws'.flatMap numC)) (hT : Tab w) :
    Calls Tryz.prog 11 #[.agg #[.int .i64 v, .int .i64 d, .slice a N cap], .agg #[.int .i64 v', .int .i64 d', .slice a' N' cap']] w fun e w' => ∃ a2 cap2,
      e = .returned (.tuple #[.agg #[.int .i64 v, .int .i64 d, .slice a2 N cap2], .int .i64 0]) ∧ At w' a2 (dC (List.zipWith (· + ·) cs cs')) ∧ Below w.heap.size w w' := by
  subst hv hd hv' hd' hNN
  subst hN hcs hcs'
  exact add_ok V D a cap raws a' cap' raws' B w hc hN' hfit hfit' hBB ha ha' hT

theorem add_dy (V D : Nat) (v d v' d' : Int) (hv : (V : Int) = v) (hd : (D : Int) = d) (hv' : (V : Int) = v') (hd' : (D : Int) = d') (a a' : Option Addr) (cap cap' N N' : Nat) (cs cs' : List Dyadic) (hN : cs.length = N) (hN' : cs'.length = N') (hNN : N' = N) (B : Nat) (w : World) (hc : chk v d N = 0)
    (hs : ∀ c ∈ cs, Sm B c) (hs' : ∀ c ∈ cs', Sm B c) (hBB : B ≤ 1000000) (ha : At w a (dC cs)) (ha' : At w a' (dC cs')) (hT : Tab w) :
    Calls Tryz.prog 11 #[.agg #[.int .i64 v, .int .i64 d, .slice a N cap], .agg #[.int .i64 v', .int .i64 d', .slice a' N' cap']] w fun e w' => ∃ a2 cap2,
      e = .returned (.tuple #[.agg #[.int .i64 v, .int .i64 d, .slice a2 N cap2], .int .i64 0]) ∧ At w' a2 (dC (List.zipWith (· + ·) cs cs')) ∧ Below w.heap.size w w' :=
  add_raw V D v d v' d' hv hd hv' hd' a a' cap cap' N N' (cs.map canon) (cs'.map canon) (by rw [List.length_map]; exact hN) (by rw [List.length_map]; exact hN') hNN cs cs' (dval_raws cs) (dval_raws cs') B w hc (canon_fit hs (by omega)) (canon_fit hs' (by omega)) hBB (by rw [← dC_raws]; exact ha) (by rw [← dC_raws]; exact ha') hT

theorem same_dy (v d : Int) (a a' : Option Addr) (N cap cap' : Nat) (cs cs' : List Dyadic) (he : cs = cs') (w : World) (hN : cs.length = N) (hl : N ≤ 1048576) (ha : At w a (dC cs)) (ha' : At w a' (dC cs')) :
    Calls Tryz.prog 9 #[.agg #[.int .i64 v, .int .i64 d, .slice a N cap], .agg #[.int .i64 v, .int .i64 d, .slice a' N cap']] w fun e w' => e = .returned (.bool true) ∧ Below w.heap.size w w' := by
  subst he
  exact same_true v d a a' N cap cap' (cs.map canon) w (by rw [List.length_map]; exact hN) hl (by rw [← dC_raws]; exact ha) (by rw [← dC_raws]; exact ha')

/-- What vast lets by may be reckoned with. -/
theorem Fair.fit {d : Int} {raws : List Raw} (h : Fair d raws) : ∀ x ∈ raws, Fit 192 x := by
  intro x hx
  obtain ⟨h1, h2, h3⟩ := h.2.2 x hx
  exact ⟨⟨by omega, by omega, by omega⟩, Sm.raw (B := 96) (by omega) (by omega) (by omega)⟩

/-- Lifted and split, a form is what it is split and lifted. -/
theorem order_split (V D I J : Nat) (cs : List Dyadic) (hij : I ≠ J) (hi : I ≤ V) (hj : J ≤ V) : halfL V (D + 1) I J (liftL V D cs) = liftL V D (halfL V D I J cs) := by
  unfold halfL liftL
  refine split_lift I J (V + 1) (rowsL (V + 1) D) (rowsL (V + 1) (D + 1)) cs hij (by omega) (by omega) (rowsL_nodup V D) (rowsL_nodup V (D + 1)) (fun x hx => ((mem_rowsL V D x).1 hx).1) (fun x hx k hk => ?_) (fun x hx t ht => ?_)
  · obtain ⟨h1, h2⟩ := (mem_rowsL V D x).1 hx
    exact (mem_rowsL V (D + 1) _).2 ⟨by rw [inc_length]; exact h1, by rw [inc_sum _ _ (by omega)]; omega⟩
  · obtain ⟨h1, h2⟩ := (mem_rowsL V D x).1 hx
    exact (mem_rowsL V D _).2 ⟨by rw [mv_length]; exact h1, by rw [mv_sum _ _ _ _ hij (by omega) (by omega) ht]; exact h2⟩
/-- Lifted, its corners' values stay. -/
theorem order_corner (V D n : Nat) (cs : List Dyadic) (hn : n ≤ V) :
    cornTo n (D + 1) (rowsL (V + 1) (D + 1)) (liftL V D cs) (rowsL (V + 1) (D + 1)).length = cornTo n D (rowsL (V + 1) D) cs (rowsL (V + 1) D).length := by
  unfold liftL
  refine corner_lift n D (V + 1) (rowsL (V + 1) D) (rowsL (V + 1) (D + 1)) cs (by omega) (rowsL_nodup V D) (rowsL_nodup V (D + 1)) (fun x hx => (mem_rowsL V D x).1 hx) (fun x hx => (mem_rowsL V (D + 1) x).1 hx) (fun x hx k hk => ?_)
  obtain ⟨h1, h2⟩ := (mem_rowsL V D x).1 hx
  exact (mem_rowsL V (D + 1) _).2 ⟨by rw [inc_length]; exact h1, by rw [inc_sum _ _ (by omega)]; omega⟩
/-- A sum, split, is the sum of the halves. -/
theorem order_add (V D I J : Nat) (cs cs' : List Dyadic) (hl : cs.length = cs'.length) : halfL V D I J (List.zipWith (· + ·) cs cs') = List.zipWith (· + ·) (halfL V D I J cs) (halfL V D I J cs') := by
  unfold halfL
  exact split_add I J _ cs cs' hl
theorem chk_up {v d d1 : Int} {V D N M : Nat} (h : chk v d N = 0) (hV : (V : Int) = v) (hD : (D : Int) = d) (hd1 : ((D + 1 : Nat) : Int) = d1) (hM : cnt V (D + 1) = M) (h1 : M ≤ 512) (h20 : D < 20) : chk v d1 M = 0 := by
  obtain ⟨c1, c2, _⟩ := chk_ok h
  subst hV hD hd1
  unfold chk
  simp only [Int.toNat_natCast]
  rw [if_neg (by omega), if_neg (by omega), if_pos hM.symm]
end Go.Proofs.YtidjljldhdckiaaGreatDoor
