/- Package scast: half. -/
import Derived.Test.YtidjljldhdckiaaGreatDoorKScast5
namespace Go.Proofs.YtidjljldhdckiaaGreatDoor
open Go.RowKit
attribute [local go_sem ↓] Go.wp_at_zero Go.wp_at_succ

theorem keysL_rows (V D : Nat) (hV : 1 ≤ V) (hV2 : V ≤ 8) (hD : D ≤ 20) (hc : cnt V D ≤ 512) : keysL (V : Int) (D : Int) = (rowsL (V + 1) D).map fun x => x.map UInt8.ofNat := by
  unfold keysL prodsL
  rw [if_pos ⟨by omega, by omega, by omega, by omega, by simpa using hc⟩]
  simp

/-- The first k rows' puts. -/
def putsTo (P : Nat → Puts) (k : Nat) : Puts := (List.range k).flatMap P
theorem putsTo_succ (P : Nat → Puts) (k : Nat) : putsTo P (k + 1) = putsTo P k ++ P k := by
  unfold putsTo; rw [List.range_succ, List.flatMap_append]; simp
theorem putsTo_len (P : Nat → Puts) (N n k : Nat) (hk : k ≤ n) (h : ∀ k, k < n → (P k).length ≤ N) : (putsTo P k).length ≤ k * N := by
  induction k with
  | zero => simp [putsTo]
  | succ k ih => rw [putsTo_succ, List.length_append, Nat.add_mul, Nat.one_mul]; have := ih (by omega); have := h k (by omega); omega
theorem putsTo_all {Q : List Nat × Dyadic → Prop} (P : Nat → Puts) (n k : Nat) (hk : k ≤ n) (h : ∀ k, k < n → ∀ p ∈ P k, Q p) : ∀ p ∈ putsTo P k, Q p := by
  intro p hp
  unfold putsTo at hp
  rw [List.mem_flatMap] at hp
  obtain ⟨q, hq, hp⟩ := hp
  rw [List.mem_range] at hq
  exact h q (by omega) p hp

theorem Tab.lt {w : World} (h : Tab w) : 0 < w.heap.size := World.block_lt_of_cell? w _ (h 0 (by decide))

theorem dC_raws (ds : List Dyadic) : dC ds = (ds.map canon).flatMap numC := by
  unfold dC; rw [List.flatMap_map]
theorem dval_raws (ds : List Dyadic) : (ds.map canon).map dval = ds := by
  rw [List.map_map]
  conv => rhs; rw [← List.map_id ds]
  exact List.map_congr_left (fun d _ => dval_canon d)

theorem halfR_len (i j : Nat) (x : List Nat) (c : Dyadic) : (halfR i j x c).length = x.getD i 0 + 1 := by simp [halfR]
theorem halfR_halfTo (i j : Nat) (x : List Nat) (c : Dyadic) : halfR i j x c = halfTo i j x c (x.getD i 0 + 1) := rfl

set_option maxHeartbeats 4000000 in
set_option maxRecDepth 100000 in
theorem half_any (V D : Nat) (a : Option Addr) (cap : Nat) (raws : List Raw) (i j B : Nat) (w : World) (hV : 1 ≤ V) (hV2 : V ≤ 8) (hD : D ≤ 20) (hc : cnt V D ≤ 512) (hlen : raws.length = cnt V D) (hi : i ≤ V) (hj : j ≤ V) (hij : i ≠ j)
    (hfit : ∀ x ∈ raws, Fit B x) (hBB : B ≤ 1000000) (ha : At w a (raws.flatMap numC)) (hT : Tab w) :
    Calls Tryz.prog 21 #[.agg #[.int .i64 (V : Int), .int .i64 (D : Int), .slice a raws.length cap], .int .i64 (i : Int), .int .i64 (j : Int)] w fun e w' => ∃ r,
      e = .returned (.agg #[.int .i64 (V : Int), .int .i64 (D : Int), .slice (some ⟨r, 0, none⟩) raws.length raws.length]) ∧ Blk w' r 36 (dC (colL (rowsL (V + 1) D) (halfP i j (rowsL (V + 1) D) (raws.map dval)))) ∧ w.heap.size ≤ r ∧ Below w.heap.size w w' := by
  have hRl : (rowsL (V + 1) D).length = raws.length := by rw [rowsL_count, hlen]
  have hkeys := keysL_rows V D hV hV2 hD hc
  have hbeg := begin_any (V : Int) (D : Int) (fun l hl => Nat.le_trans (keysL_len _ _ l hl) (by decide))
  obtain ⟨R, hR⟩ : ∃ R, rowsL (V + 1) D = R := ⟨_, rfl⟩
  obtain ⟨f, hf⟩ : ∃ f, place (R.map fun x => x.map UInt8.ofNat) R.length = f := ⟨_, rfl⟩
  have hkl : (keysL (V : Int) (D : Int)).length = raws.length := by rw [hkeys, List.length_map, hRl]
  have hplace : ∀ x ∈ R, ∃ q, ∃ h : q < R.length, R[q] = x ∧ f (x.map UInt8.ofNat) = q := by
    intro x hx
    rw [← hR] at hx
    have := place_row (n := V) (s := D) (by omega) hx
    subst hR; subst hf
    exact this
  have hpl : place (keysL (V : Int) (D : Int)) raws.length = f := by rw [hkeys, ← hRl, hR, hf]
  rw [hkl, hpl] at hbeg
  rw [hR] at hRl ⊢
  have hmem : ∀ x ∈ R, x.length = V + 1 ∧ x.sum = D := fun x hx => (mem_rowsL V D x).1 (by rw [hR]; exact hx)
  have hmem2 : ∀ x, x.length = V + 1 → x.sum = D → x ∈ R := fun x h1 h2 => by rw [← hR]; exact (mem_rowsL V D x).2 ⟨h1, h2⟩
  have hnd : R.Nodup := by rw [← hR]; exact rowsL_nodup V D
  have Hbeg := Lib.hid hbeg; have Hkeys := Lib.hid hkeys; have Hplace := Lib.hid hplace; have Hmem := Lib.hid hmem; have Hmem2 := Lib.hid hmem2; have Hnd := Lib.hid hnd; have HRl := Lib.hid hRl; have Hfit := Lib.hid hfit; have Hlen := Lib.hid hlen; have HA := Lib.hid ha; have HT := Lib.hid hT; have HR := Lib.hid hR; have Hkl := Lib.hid hkl
  have Hal : Hid (∀ b o, a = some ⟨b, o, none⟩ → b < w.heap.size) := by
    intro b o e
    subst e
    refine ha.lt (fun h0 => ?_)
    have h1 := congrArg List.length h0
    rw [flat_length numC 3 (fun _ => rfl)] at h1
    have := cnt_pos V D
    rw [List.length_nil] at h1
    omega
  clear hbeg hkeys hplace hmem hmem2 hnd hRl hfit hlen ha hT hR hf hpl hkl
  obtain ⟨W, hW⟩ : ∃ W, (((w.alloc (.cells #[.int .i64 (V : Int), .int .i64 (D : Int), .slice a raws.length cap] 24)).alloc (.cells #[.int .i64 (i : Int)] 3)).alloc (.cells #[.int .i64 (j : Int)] 3)).alloc (.cells #[.int .i64 0, .int .i64 0, .slice none 0 0] 24) = W := ⟨_, rfl⟩
  have Hb : Hid (Below w.heap.size w W) := by rw [← hW]; exact ((((Below.refl _ _).alloc (Nat.le_refl _) _).alloc (by simp) _).alloc (by simp <;> omega) _).alloc (by simp <;> omega) _
  have Hq : Hid (Blk W w.heap.size 24 [.int .i64 (V : Int), .int .i64 (D : Int), .slice a raws.length cap]) := by rw [← hW]; exact (((Blk.new _ _ _).alloc _).alloc _).alloc _
  have Hi : Hid (Blk W (w.heap.size + 1) 3 [.int .i64 (i : Int)]) := by rw [← hW]; exact ((Blk.newAt _ _ _ (by simp)).alloc _).alloc _
  have Hj : Hid (Blk W (w.heap.size + 1 + 1) 3 [.int .i64 (j : Int)]) := by rw [← hW]; exact (Blk.newAt _ _ _ (by simp)).alloc _
  have Hr : Hid (Blk W (w.heap.size + 1 + 1 + 1) 24 [.int .i64 0, .int .i64 0, .slice none 0 0]) := by rw [← hW]; exact Blk.newAt _ _ _ (by simp)
  have q0 : W.cell? ⟨w.heap.size, 0, none⟩ = some (.int .i64 (V : Int)) := Hq.out.cell 0
  have q1 : W.cell? ⟨w.heap.size, 1, none⟩ = some (.int .i64 (D : Int)) := Hq.out.cell 1
  go_enter Tryz.func21, Tryz.ntmps21
  go_wp2_with fail
  refine (Hbeg.out W).mono ?_
  rintro e w1 ⟨bB, bm, rfl, ⟨hB, lB, hm, lm⟩, hbn⟩
  have lz1 := Hq.out.lt; have lz2 := Hi.out.lt; have lz3 := Hj.out.lt; have lz4 := Hr.out.lt
  replace Hq := Lib.hid (Hq.out.below hbn); replace Hi := Lib.hid (Hi.out.below hbn); replace Hj := Lib.hid (Hj.out.below hbn); replace Hr := Lib.hid (Hr.out.below hbn)
  replace Hb := Lib.hid (bnext Hb.out hbn)
  clear q0 q1 hbn
  have lB1 := hB.lt; have lm1 := hm.lt; have sz1 := Hb.out.size
  obtain ⟨W3, hW3⟩ : ∃ W3, w1.alloc (.cells #[.int .i64 (V : Int), .int .i64 (D : Int), .slice (some ⟨bB, 0, none⟩) raws.length raws.length, .map (some bm)] 64) = W3 := ⟨_, rfl⟩
  have hb3 : Below w1.heap.size w1 W3 := by rw [← hW3]; exact (Below.refl _ _).alloc (Nat.le_refl _) _
  have Hx : Hid (Blk W3 w1.heap.size 64 [.int .i64 (V : Int), .int .i64 (D : Int), .slice (some ⟨bB, 0, none⟩) raws.length raws.length, .map (some bm)]) := by rw [← hW3]; exact Blk.new _ _ _
  replace Hq := Lib.hid (Hq.out.below hb3); replace Hi := Lib.hid (Hi.out.below hb3); replace Hj := Lib.hid (Hj.out.below hb3); replace Hr := Lib.hid (Hr.out.below hb3)
  replace Hb := Lib.hid (bnext Hb.out hb3)
  have HB := Lib.hid (hB.below hb3); have Hm := Lib.hid (hm.below hb3)
  clear hB hm hb3
  have q0 : W3.cell? ⟨w.heap.size, 0, none⟩ = some (.int .i64 (V : Int)) := Hq.out.cell 0
  have q1 : W3.cell? ⟨w.heap.size, 1, none⟩ = some (.int .i64 (D : Int)) := Hq.out.cell 1
  have q2 : W3.cell? ⟨w.heap.size, 2, none⟩ = some (.slice a raws.length cap) := Hq.out.cell 2
  have x0 : W3.cell? ⟨w1.heap.size, 0, none⟩ = some (.int .i64 (V : Int)) := Hx.out.cell 0
  have x1 : W3.cell? ⟨w1.heap.size, 1, none⟩ = some (.int .i64 (D : Int)) := Hx.out.cell 1
  have x2 : W3.cell? ⟨w1.heap.size, 2, none⟩ = some (.slice (some ⟨bB, 0, none⟩) raws.length raws.length) := Hx.out.cell 2
  have x3 : W3.cell? ⟨w1.heap.size, 3, none⟩ = some (.map (some bm)) := Hx.out.cell 3
  have sz3 : W3.heap.size = w1.heap.size + 1 := by rw [← hW3]; simp
  have Hsz3 := Lib.hid sz3; clear sz3
  obtain ⟨cs, hcs⟩ : ∃ cs, raws.map dval = cs := ⟨_, rfl⟩
  obtain ⟨P, hP⟩ : ∃ P : Nat → Puts, (fun k => halfR i j (R.getD k []) (cs.getD k 0)) = P := ⟨_, rfl⟩
  have hPl : ∀ k, k < R.length → (P k).length ≤ 21 := by
    intro k hk
    have hm := Hmem.out _ (List.getElem_mem hk)
    have e : R.getD k [] = R[k] := by simp [hk]
    have := getD_le_sum R[k] i
    rw [← hP]
    dsimp only
    rw [halfR_len, e]; omega
  have hcv : ∀ k (h : k < raws.length), cs.getD k 0 = dval raws[k] := fun k h => by rw [← hcs]; simp [h]
  have hPs : ∀ k, k < R.length → ∀ p ∈ P k, Sm (B + 42) p.2 := by
    intro k hk
    have hm := Hmem.out _ (List.getElem_mem hk)
    have e : R.getD k [] = R[k] := by simp [hk]
    rw [← hP]
    dsimp only
    have hk2 : k < raws.length := by rw [← HRl.out]; exact hk
    rw [halfR_halfTo, e, hcv k hk2]
    exact halfTo_sm (Hfit.out _ (List.getElem_mem hk2)).2 (by omega) hij (Nat.le_refl _) _ (Nat.le_refl _)
  have hPr : ∀ k, k < R.length → ∀ p ∈ P k, p.1 ∈ R := by
    intro k hk p hp
    have hm := Hmem.out _ (List.getElem_mem hk)
    have e : R.getD k [] = R[k] := by simp [hk]
    rw [← hP] at hp
    dsimp only at hp
    unfold halfR at hp
    rw [e, List.mem_map] at hp
    obtain ⟨t, ht, rfl⟩ := hp
    rw [List.mem_range] at ht
    exact Hmem2.out _ (by rw [mv_length]; exact hm.1) (by rw [mv_sum _ _ _ _ hij (by omega) (by omega) (by omega)]; exact hm.2)
  have Htb : Hid (0 < w.heap.size) := HT.out.lt
  have hmade := smade_any (V : Int) (D : Int) bB raws.length bm 43 #[.pointer (some ⟨w.heap.size + 1, 0, none⟩), .pointer (some ⟨w1.heap.size, 0, none⟩), .pointer (some ⟨w.heap.size + 1 + 1, 0, none⟩)] (V : Int) (D : Int) a cap raws
    (fun k W => Blk W w1.heap.size 64 [.int .i64 (V : Int), .int .i64 (D : Int), .slice (some ⟨bB, 0, none⟩) raws.length raws.length, .map (some bm)] ∧ Blk W (w.heap.size + 1) 3 [.int .i64 (i : Int)] ∧ Blk W (w.heap.size + 1 + 1) 3 [.int .i64 (j : Int)] ∧ Blk W bB 36 (dC (putAll f (List.replicate raws.length 0) (putsTo P k))) ∧ Mp W bm raws.length f ∧ Tab W) W3
    Hkl.out.symm (HA.out.below Hb.out) ?hab ?hac (enters_of Tryz.func43 (by kernel_rfl) rfl) ?hJb ?hcl ?hbB ⟨Hx.out, Hi.out, Hj.out, HB.out, Hm.out, HT.out.below Hb.out⟩
  rotate_right 5
  case hbB => have := Hsz3.out; omega
  case hab =>
    intro b o e
    have := Hal.out b o e; omega
  case hac =>
    intro b o e
    have := Hal.out b o e; have := Hb.out.size; omega
  case hJb =>
    rintro k W' W'' ⟨j1, j2, j3, j4, j5, j6⟩ hch
    have hs := Hsz3.out
    have := Htb.out; have := Hb.out.size
    exact ⟨hch.blk j1 (by omega), hch.blk j2 (by omega), hch.blk j3 (by omega), hch.blk j4 (by omega), hch.mp j5 (by omega), hch.tab j6 (by omega)⟩
  case hcl =>
    rintro k hk hk2 W' bM ⟨j1, j2, j3, j4, j5, j6⟩ hM hbM
    have hs := Hsz3.out
    have hkR : k < R.length := by rw [HRl.out]; exact hk2
    have hm := Hmem.out _ (List.getElem_mem hkR)
    have ek : (keysL (V : Int) (D : Int))[k] = (R[k]).map UInt8.ofNat := by
      have := Hkeys.out; rw [HR.out] at this; simp only [this, List.getElem_map]
    rw [ek] at hM ⊢
    rw [List.length_map]
    obtain ⟨ds, hds⟩ : ∃ ds, putAll f (List.replicate raws.length 0) (putsTo P k) = ds := ⟨_, rfl⟩
    have hdl : ds.length = raws.length := by rw [← hds, putAll_length, List.length_replicate]
    rw [hds] at j4
    have nmB : bm ≠ bB := by
      rintro rfl
      obtain ⟨D, ⟨es, clock, hb, _⟩, _⟩ := j5
      have h := j4.symm.trans hb; simp at h
    have hpl := putsTo_len P 21 R.length k (by omega) hPl
    have hkb : k * 21 ≤ 10752 := by have := Hlen.out; omega
    have hds2 : ∀ y ∈ ds, Sm (B + 42 + 10752) y := by
      rw [← hds]
      intro y hy
      have := putAll_sm (B := B + 42) f (List.replicate raws.length 0) (putsTo P k) (fun d hd => by rw [List.eq_of_mem_replicate hd]; exact Sm.zero _) (putsTo_all P R.length k (by omega) hPs) y hy
      exact this.mono (by omega)
    have hfx := Hfit.out _ (List.getElem_mem hk2)
    have hh := half1_any (V : Int) (D : Int) bB bm bM w1.heap.size (w.heap.size + 1) (w.heap.size + 1 + 1) R[k].length raws.length B (B + 42 + 10752) i j f ds R[k] raws[k].1 raws[k].2.1 raws[k].2.2 W' (by rw [hdl]; exact j1) j2 j3 j4 j5 hM (by omega) (by omega) hij (by omega) (by omega)
      (fun t ht => by
        have hmm : mv R[k] i j t ∈ R := Hmem2.out _ (by rw [mv_length]; exact hm.1) (by rw [mv_sum _ _ _ _ hij (by omega) (by omega) ht]; exact hm.2)
        obtain ⟨q, hq, _, e2⟩ := Hplace.out _ hmm
        rw [e2, hdl, ← HRl.out]; exact hq) hfx hds2 (by omega) (by omega) j6 (by have := Htb.out; have := Hb.out.size; omega) (by have := Htb.out; omega)
    refine hh.mono ?_
    rintro e' w' ⟨he, hB', hch⟩
    refine ⟨he, ⟨hch.blk j1 (by omega), hch.blk j2 (by omega), hch.blk j3 (by omega), ?_, hch.mp j5 (by omega), hch.tab j6 (by have := Htb.out; have := Hb.out.size; omega)⟩, hch⟩
    rw [putsTo_succ, putAll_append, hds]
    have eP : P k = halfR i j R[k] (dval raws[k]) := by
      rw [← hP]
      dsimp only
      rw [hcv k hk2]
      simp [hkR]
    rw [eP]; exact hB'
  have Hmade := Lib.hid hmade; clear hmade
  go_wp2_with fail
  refine Hmade.out.mono ?_
  rintro e w4 ⟨rfl, ⟨_, _, _, hB4, _, _⟩, hch⟩
  have hs := Hsz3.out
  have hr4 : Blk w4 (w.heap.size + 1 + 1 + 1) 24 [.int .i64 0, .int .i64 0, .slice none 0 0] := hch.blk Hr.out (by omega)
  have r0 : w4.cell? ⟨w.heap.size + 1 + 1 + 1, 0, none⟩ = some (.int .i64 0) := hr4.cell 0
  have r1 : w4.cell? ⟨w.heap.size + 1 + 1 + 1, 1, none⟩ = some (.int .i64 0) := hr4.cell 1
  have r2 : w4.cell? ⟨w.heap.size + 1 + 1 + 1, 2, none⟩ = some (.slice none 0 0) := hr4.cell 2
  have fr0 := hr4.free 0; have fr1 := hr4.free 1; have fr2 := hr4.free 2
  have hfin : putAll f (List.replicate raws.length 0) (putsTo P (keysL (V : Int) (D : Int)).length) = colL R (halfP i j R cs) := by
    rw [Hkl.out, ← HRl.out]
    have e : putsTo P R.length = halfP i j R cs := by rw [← hP]; rfl
    rw [e]
    exact putAll_zero R Hnd.out f Hplace.out _ (by rw [← e]; exact putsTo_all P R.length R.length (Nat.le_refl _) hPr)
  rw [hfin] at hB4
  have HB4 := Lib.hid hB4; have Hch := Lib.hid hch
  have Hbz := Lib.hid (Hb.out.trans (Hch.out.below (by have := Hb.out.size; omega) (fun b e => by omega)))
  clear hB4 hch hr4 q0 q1 q2 x0 x1 x2 x3 hs
  go_wp2
  refine bodyPost_ret (v := .agg #[.int .i64 (V : Int), .int .i64 (D : Int), .slice (some ⟨bB, 0, none⟩) raws.length raws.length]) (by simp [results, Tryz.results21, go_sem, r0, r1, r2]) rfl ⟨bB, rfl, ?_, by omega, ?_⟩
  · have := ((HB4.out.set_other ⟨w.heap.size + 1 + 1 + 1, 0, none⟩ (by dsimp only; omega) (.int .i64 (V : Int))).set_other ⟨w.heap.size + 1 + 1 + 1, 1, none⟩ (by dsimp only; omega) (.int .i64 (D : Int))).set_other ⟨w.heap.size + 1 + 1 + 1, 2, none⟩ (by dsimp only; omega) (.slice (some ⟨bB, 0, none⟩) raws.length raws.length)
    rw [hcs]; exact this
  · exact (((Hbz.out.setCell (by dsimp only; omega) _).setCell (by dsimp only; omega) _).setCell (by dsimp only; omega) _)
end Go.Proofs.YtidjljldhdckiaaGreatDoor
