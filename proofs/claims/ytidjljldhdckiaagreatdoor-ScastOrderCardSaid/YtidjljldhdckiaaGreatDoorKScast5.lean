/- Package scast: half's closure. -/
import Derived.Test.YtidjljldhdckiaaGreatDoorKScast4
import Derived.Test.YtidjljldhdckiaaGreatDoorKChosen
import Derived.Test.YtidjljldhdckiaaGreatDoorKRowsM
namespace Go.Proofs.YtidjljldhdckiaaGreatDoor
open Go.RowKit
attribute [local go_sem ↓] Go.wp_at_zero Go.wp_at_succ

theorem byteC_row (y : List Nat) (k : Nat) (hk : k < y.length) (h : y.getD k 0 ≤ 255) : (byteC (y.map UInt8.ofNat))[k]? = some (.int .u8 (y.getD k 0 : Int)) := by
  rw [byteC_get _ k (by simpa using hk)]
  have e : y[k] = y.getD k 0 := by simp [hk]
  rw [List.getElem_map, e]
  generalize y.getD k 0 = z at *
  congr 3
  simp
  omega
theorem byteC_row_set (y : List Nat) (k v : Nat) (h : v ≤ 255) : (byteC (y.map UInt8.ofNat)).set k (.int .u8 (v : Int)) = byteC ((y.set k v).map UInt8.ofNat) := by
  have e : (v : Int) = ((UInt8.ofNat v).toNat : Int) := by simp; omega
  rw [e, byteC_set, List.map_set]
theorem mv_step (x : List Nat) (i j t : Nat) (hij : i ≠ j) (hi : i < x.length) (hj : j < x.length) : ((mv x i j t).set i (x.getD i 0 - t - 1)).set j (x.getD j 0 + t + 1) = mv x i j (t + 1) := by
  refine ext_getD (by simp [mv_length]) (fun l _ => ?_)
  rw [getD_set _ _ _ _ (by simp [mv_length, hj]), getD_set _ _ _ _ (by simp [mv_length, hi]), getD_mv _ _ _ _ _ hij hi hj, getD_mv _ _ _ _ _ hij hi hj]
  by_cases e1 : j = l
  · subst e1; rw [if_pos rfl, if_pos rfl]; omega
  · rw [if_neg e1, if_neg e1, if_neg e1]
    by_cases e2 : i = l
    · subst e2; rw [if_pos rfl, if_pos rfl]; omega
    · rw [if_neg e2, if_neg e2, if_neg e2]
theorem mv_zero (x : List Nat) (i j : Nat) (hij : i ≠ j) (hi : i < x.length) (hj : j < x.length) : mv x i j 0 = x := by
  refine ext_getD (mv_length _ _ _ _) (fun l _ => ?_)
  rw [getD_mv _ _ _ _ _ hij hi hj]
  split
  · rfl
  · split <;> rfl
theorem shift_half (D : Dyadic) (k : Nat) : dval (sgnB (dN D), nt (dN D).natAbs, dE D + -(k : Int)) = D * hp k := by
  have h := dval_canon D
  unfold dval canon at h
  unfold dval hp
  simp only [iv_int] at h ⊢
  conv => rhs; rw [← h]
  rw [owp_mul, Int.mul_one]
  congr 1; omega
theorem chD_sm (n k : Nat) (hn : n ≤ 20) : Sm 21 (chD n k) := by
  refine ⟨(ch n k : Int) * 2 ^ 21, ?_, ?_⟩
  · unfold chD
    rw [← owp_shift (ch n k : Int) 21 0]; rfl
  · have h := Nat.le_trans (ch_le n k) (Nat.pow_le_pow_right (by decide) hn)
    rw [Int.natAbs_mul]
    simp only [Int.natAbs_natCast]
    have : (2 ^ 21 : Int).natAbs = 2097152 := rfl
    rw [this]
    have : 2 ^ (2 * 21) = 4398046511104 := rfl
    omega
theorem hp_sm (k : Nat) : Sm (k + 1) (hp k) := by
  refine ⟨2, ?_, ?_⟩
  · unfold hp
    rw [← owp_shift 1 1 k]; rfl
  · have : 2 ^ 2 ≤ 2 ^ (2 * (k + 1)) := Nat.pow_le_pow_right (by decide) (by omega)
    omega

/-- What half's closure puts at the first t rows. -/
def halfTo (i j : Nat) (x : List Nat) (c : Dyadic) (t : Nat) : Puts := (List.range t).map fun t => (mv x i j t, c * chD (x.getD i 0) t * hp (x.getD j 0 + t))
theorem halfTo_succ (i j : Nat) (x : List Nat) (c : Dyadic) (t : Nat) : halfTo i j x c (t + 1) = halfTo i j x c t ++ [(mv x i j t, c * chD (x.getD i 0) t * hp (x.getD j 0 + t))] := by
  unfold halfTo; rw [List.range_succ, List.map_append]; rfl
theorem halfTo_sm {B C i j : Nat} {x : List Nat} {c : Dyadic} (hc : Sm B c) (h : x.sum ≤ 20) (hij : i ≠ j) (hC : B + 42 ≤ C) (t : Nat) (ht : t ≤ x.getD i 0 + 1) : ∀ p ∈ halfTo i j x c t, Sm C p.2 := by
  intro p hp'
  unfold halfTo at hp'
  rw [List.mem_map] at hp'
  obtain ⟨s, hs, rfl⟩ := hp'
  rw [List.mem_range] at hs
  have h2 := getD_two_le x i j hij
  have := (hc.mul (chD_sm (x.getD i 0) s (by omega))).mul (hp_sm (x.getD j 0 + s))
  exact this.mono (by omega)

set_option maxHeartbeats 4000000 in
set_option maxRecDepth 100000 in
theorem half1_any (v d : Int) (bB bm bM bx bi bj capM n B C i j : Nat) (f : List UInt8 → Nat) (ds : List Dyadic) (x : List Nat) (s : Bool) (m : List UInt8) (e : Int) (w : World)
    (hX : Blk w bx 64 [.int .i64 v, .int .i64 d, .slice (some ⟨bB, 0, none⟩) ds.length ds.length, .map (some bm)]) (hI : Blk w bi 3 [.int .i64 (i : Int)]) (hJ : Blk w bj 3 [.int .i64 (j : Int)])
    (hB : Blk w bB 36 (dC ds)) (hm : Mp w bm n f) (hM : Blk w bM 5 (byteC (x.map UInt8.ofNat))) (hl : x.length ≤ 9) (hs : x.sum ≤ 20) (hij : i ≠ j) (hi : i < x.length) (hj : j < x.length)
    (hf : ∀ t, t ≤ x.getD i 0 → f ((mv x i j t).map UInt8.ofNat) < ds.length) (hx : Fit B (s, m, e)) (hd : ∀ y ∈ ds, Sm C y) (hC : B + 42 ≤ C) (hCC : 2 * C + 100 ≤ 268435456) (hT : Tab w)
    (t1 : 0 ≠ bM) (t2 : 0 ≠ bB) :
    Calls Tryz.prog 43 #[.slice (some ⟨bM, 0, none⟩) x.length capM, .agg #[.bool s, .string (bs m), .int .i64 e], .pointer (some ⟨bi, 0, none⟩), .pointer (some ⟨bx, 0, none⟩), .pointer (some ⟨bj, 0, none⟩)] w fun ex w' =>
      (∃ r, ex = .returned r) ∧ Blk w' bB 36 (dC (putAll f ds (halfR i j x (dval (s, m, e))))) ∧ Chg (fun b => b = bM ∨ b = bB) w w' := by
  have nMB : bM ≠ bB := by rintro rfl; have h := hM.symm.trans hB; simp at h
  have nMX : bM ≠ bx := by rintro rfl; have h := hM.symm.trans hX; simp at h
  have nXB : bx ≠ bB := by rintro rfl; have h := hX.symm.trans hB; simp at h
  have nMI : bM ≠ bi := by rintro rfl; have h := hM.symm.trans hI; simp at h
  have nBI : bB ≠ bi := by rintro rfl; have h := hB.symm.trans hI; simp at h
  have nMJ : bM ≠ bj := by rintro rfl; have h := hM.symm.trans hJ; simp at h
  have nBJ : bB ≠ bj := by rintro rfl; have h := hB.symm.trans hJ; simp at h
  have nmM : bm ≠ bM := by
    rintro rfl
    obtain ⟨D, ⟨es, clock, hb, _⟩, _⟩ := hm
    have h := hM.symm.trans hb; simp at h
  have nmB : bm ≠ bB := by
    rintro rfl
    obtain ⟨D, ⟨es, clock, hb, _⟩, _⟩ := hm
    have h := hB.symm.trans hb; simp at h
  obtain ⟨c, hc⟩ : ∃ c, dval (s, m, e) = c := ⟨_, rfl⟩
  have hsum := getD_two_le x i j hij
  obtain ⟨p, hp0⟩ : ∃ p, x.getD i 0 = p := ⟨_, rfl⟩
  obtain ⟨q, hq0⟩ : ∃ q, x.getD j 0 = q := ⟨_, rfl⟩
  have hpq : p + q ≤ 20 := by omega
  have hR : halfR i j x c = halfTo i j x c (p + 1) := by unfold halfR halfTo; rw [hp0]
  rw [hc, hR]
  have lX := hX.lt; have lB := hB.lt; have lM := hM.lt; have lm := hm.lt; have lI := hI.lt; have lJ := hJ.lt
  have Hx0 := Lib.hid hx; have Hd := Lib.hid hd; have Hf0 := Lib.hid hf; have Hc0 := Lib.hid hc; have HT := Lib.hid hT; have Hp0 := Lib.hid hp0; have Hq0 := Lib.hid hq0; have Hs := Lib.hid hs
  clear hx hd hf hc hT hsum hR hs
  have hmi : (byteC (x.map UInt8.ofNat))[i]? = some (.int .u8 (p : Int)) := by rw [byteC_row x i hi (by omega), Hp0.out]
  have c0 : ∀ W, Below w.heap.size w W → W.cell? ⟨bM, i, none⟩ = some (.int .u8 (p : Int)) := fun W hW => by rw [(hM.below hW).cell, hmi]
  obtain ⟨W, hW⟩ : ∃ W, w.alloc (.cells #[.bool s, .string (bs m), .int .i64 e] 36) = W := ⟨_, rfl⟩
  have hb0 : Below w.heap.size w W := by rw [← hW]; exact (Below.refl _ _).alloc (Nat.le_refl _) _
  have hcb : Blk W w.heap.size 36 [.bool s, .string (bs m), .int .i64 e] := by rw [← hW]; exact Blk.new _ _ _
  have i0 : W.cell? ⟨bi, 0, none⟩ = some (.int .i64 (i : Int)) := (hI.below hb0).cell 0
  have m0 := c0 W hb0
  have hixi := ixs (t := 67) (e := 5) (sz := 1) Tryz.underlying67 (by kernel_rfl) x.length capM i (i : Int) (show (some ⟨bM, 0, none⟩ : Option Addr) = some ⟨bM, 0, none⟩ from rfl) hi rfl
  have hixj := ixs (t := 67) (e := 5) (sz := 1) Tryz.underlying67 (by kernel_rfl) x.length capM j (j : Int) (show (some ⟨bM, 0, none⟩ : Option Addr) = some ⟨bM, 0, none⟩ from rfl) hj rfl
  rw [Nat.mul_one, Nat.zero_add] at hixi hixj
  have Hb0 := Lib.hid hb0; have Hcb := Lib.hid hcb
  clear hb0 hcb c0 hmi hp0 hq0
  have hlw : W.heap.size = w.heap.size + 1 := by rw [← hW]; simp
  have Hlw := Lib.hid hlw; clear hlw
  go_enter Tryz.func43, Tryz.ntmps43
  go_wp2_with fail
  refine (chosen_any p (by omega) W).mono ?_
  rintro e' w1 ⟨rfl, hrow, hb1⟩
  have Hrow := Lib.hid hrow; have Hb1 := Lib.hid hb1
  clear hrow hb1
  have HX1 := Lib.hid ((hX.below Hb0.out).below Hb1.out); have HI1 := Lib.hid ((hI.below Hb0.out).below Hb1.out); have HJ1 := Lib.hid ((hJ.below Hb0.out).below Hb1.out); have HB1 := Lib.hid ((hB.below Hb0.out).below Hb1.out); have Hm1 := Lib.hid ((hm.below Hb0.out).below Hb1.out); have HM1 := Lib.hid ((hM.below Hb0.out).below Hb1.out); have Hc1 := Lib.hid (Hcb.out.below Hb1.out)
  have Hbb := Lib.hid (bnext Hb0.out Hb1.out)
  clear hX hI hJ hB hm hM i0 m0
  go_wp2_with fail
  go_loopw [8, 16] (fun _ u wr => ∃ t : Nat, t ≤ p + 1 ∧ u = .int .i64 (t : Int) ∧ Blk wr w.heap.size 36 [.bool s, .string (bs m), .int .i64 e] ∧ Blk wr bx 64 [.int .i64 v, .int .i64 d, .slice (some ⟨bB, 0, none⟩) ds.length ds.length, .map (some bm)] ∧ Blk wr bi 3 [.int .i64 (i : Int)] ∧ Blk wr bj 3 [.int .i64 (j : Int)] ∧ Blk wr bM 5 (byteC ((mv x i j (min t p)).map UInt8.ofNat)) ∧ Blk wr bB 36 (dC (putAll f ds (halfTo i j x c t))) ∧ Mp wr bm n f ∧ Blk wr W.heap.size 2 (ils (p + 1) (ch p)) ∧ Chg (fun b => b = bM ∨ b = bB) w wr) (fun _ u _ => p + 1 - (intOf u).toNat)
  case atStart =>
    refine ⟨0, Nat.zero_le _, rfl, Hc1.out, HX1.out, HI1.out, HJ1.out, ?_, HB1.out, Hm1.out, Hrow.out, Chg.of_below Hbb.out⟩
    rw [Nat.zero_min, mv_zero x i j hij hi hj]; exact HM1.out
  case round =>
    clear HX1 HI1 HJ1 HB1 Hm1 HM1 Hc1 Hrow
    obtain ⟨t, ht, rfl, pc, pX, pI, pJ, pM, pB, pm, pr, pg⟩ := hrel
    by_cases hlt : t < p + 1
    · rw [Nat.min_eq_left (by omega)] at pM
      have hrt : wr.cell? ⟨W.heap.size, t, none⟩ = some (.int .i64 (ch p t : Int)) := by rw [pr.cell, ils_get _ _ _ hlt]
      have hixr := ixs (t := 89) (e := 2) (sz := 1) Tryz.underlying89 (by kernel_rfl) (p + 1) (p + 1) t (t : Int) (show (some ⟨W.heap.size, 0, none⟩ : Option Addr) = some ⟨W.heap.size, 0, none⟩ from rfl) hlt rfl
      rw [Nat.mul_one, Nat.zero_add] at hixr
      have hchl : ch p t ≤ 1048576 := Nat.le_trans (ch_le p t) (Nat.pow_le_pow_right (by decide) (show p ≤ 20 by omega))
      have hgi : (mv x i j t).getD i 0 = p - t := by rw [getD_mv _ _ _ _ _ hij hi hj, if_neg (fun e => hij e.symm), if_pos rfl, Hp0.out]
      have hgj : (mv x i j t).getD j 0 = q + t := by rw [getD_mv _ _ _ _ _ hij hi hj, if_pos rfl, Hq0.out]
      have hmj : wr.cell? ⟨bM, j, none⟩ = some (.int .u8 ((q + t : Nat) : Int)) := by rw [pM.cell, byteC_row _ j (by rw [mv_length]; exact hj) (by omega), hgj]
      have Hmi : Hid ((byteC ((mv x i j t).map UInt8.ofNat))[i]? = some (.int .u8 ((p - t : Nat) : Int))) := by show _ = _; rw [byteC_row _ i (by rw [mv_length]; exact hi) (by omega), hgi]
      obtain ⟨y, hy⟩ : ∃ y, mv x i j t = y := ⟨_, rfl⟩
      have hyl : y.length = x.length := by rw [← hy, mv_length]
      rw [hy] at pM Hmi
      have hft := Hf0.out t (by rw [Hp0.out]; omega)
      rw [hy] at hft
      obtain ⟨cs, hcs⟩ : ∃ cs, putAll f ds (halfTo i j x c t) = cs := ⟨_, rfl⟩
      have hcl : cs.length = ds.length := by rw [← hcs, putAll_length]
      have hcsm : ∀ z ∈ cs, Sm (C + t) z := by
        rw [← hcs]
        have := putAll_sm f ds (halfTo i j x c t) Hd.out (halfTo_sm (by rw [← Hc0.out]; exact Hx0.out.2) Hs.out hij hC t (by rw [Hp0.out]; omega))
        intro z hz
        have h1 := this z hz
        have e1 : (halfTo i j x c t).length = t := by simp [halfTo]
        rw [e1] at h1; exact h1
      rw [hcs] at pB
      obtain ⟨D1, hD1⟩ : ∃ D1, Dyadic.ofIntWithPrec (ch p t : Int) 0 = D1 := ⟨_, rfl⟩
      have hD1c : D1 = chD p t := by rw [← hD1]; rfl
      have hD1s : Sm 21 D1 := by rw [hD1c]; exact chD_sm p t (by omega)
      obtain ⟨D2, hD2⟩ : ∃ D2, c * D1 = D2 := ⟨_, rfl⟩
      have hcS : Sm B c := by rw [← Hc0.out]; exact Hx0.out.2
      have hD2s : Sm (B + 21) D2 := by rw [← hD2]; exact hcS.mul hD1s
      obtain ⟨D3, hD3⟩ : ∃ D3, D2 * hp (q + t) = D3 := ⟨_, rfl⟩
      have hD3s : Sm C D3 := by rw [← hD3]; exact (hD2s.mul (hp_sm (q + t))).mono (by omega)
      have HD1 := Lib.hid hD1
      have HD2 : Hid (dval (s, m, e) * dval (sgnB (dN D1), nt (dN D1).natAbs, dE D1) = D2) := by
        show dval (s, m, e) * dval (canon D1) = D2
        rw [dval_canon, Hc0.out]; exact hD2
      have HD3 : Hid (dval (sgnB (dN D2), nt (dN D2).natAbs, dE D2 + -((q + t : Nat) : Int)) = D3) := by show _ = _; rw [shift_half]; exact hD3
      have HF1 : Hid (Fit (B + 21) (sgnB (dN D1), nt (dN D1).natAbs, dE D1)) := (hD1s.mono (by omega)).fit (by omega)
      have HFx : Hid (Fit (B + 21) (s, m, e)) := Hx0.out.mono (by omega)
      have HO2 : Hid (Ok (sgnB (dN D2), nt (dN D2).natAbs, dE D2)) := hD2s.ok (by omega)
      have HF3 : Hid (Fit (C + t) (sgnB (dN D3), nt (dN D3).natAbs, dE D3)) := (hD3s.mono (by omega)).fit (by omega)
      obtain ⟨Dn, hDn⟩ : ∃ Dn, cs[f (y.map UInt8.ofNat)]'(by omega) + D3 = Dn := ⟨_, rfl⟩
      have Hst : Hid (cs.set (f (y.map UInt8.ofNat)) Dn = putAll f ds (halfTo i j x c (t + 1))) := by
        show _ = _
        rw [halfTo_succ, putAll_append, hcs, ← hDn]
        show _ = addAt _ _ _
        unfold addAt
        rw [hy, Hp0.out, Hq0.out, ← hD3, ← hD2, hD1c]
        congr 1
        have : f (y.map UInt8.ofNat) < cs.length := by omega
        simp [this]
      have Hcsm := Lib.hid hcsm
      have Hhcs := Lib.hid hcs
      have HDn : Hid (cs[f (y.map UInt8.ofNat)]'(by omega) + dval (sgnB (dN D3), nt (dN D3).natAbs, dE D3) = Dn) := by
        show _ + dval (canon D3) = _
        rw [dval_canon]; exact hDn
      have hTr : Tab wr := pg.tab HT.out (by rintro (h | h); exact t1 h; exact t2 h)
      have Hput := fun W' hW' => put_any v d bB bm bM capM n (f (y.map UInt8.ofNat)) (C + t) f cs (y.map UInt8.ofNat) (sgnB (dN D3)) (nt (dN D3).natAbs) (dE D3) Dn W' (pB.below hW') (pm.below hW') (pM.below hW') (by simp; omega) rfl (by omega) HF3.out (Hcsm.out _ (List.getElem_mem _)) (by omega) HDn.out (hTr.below hW')
      rw [List.length_map, hyl, hcl] at Hput
      replace Hput := Lib.hid Hput
      have Hc := Lib.hid pc; have Hx := Lib.hid pX; have Hj := Lib.hid pJ; have HpI := Lib.hid pI; have HpM := Lib.hid pM; have HpB := Lib.hid pB; have Hpm := Lib.hid pm; have Hpr := Lib.hid pr; have Hpg := Lib.hid pg; have HTr := Lib.hid hTr
      have Hk : Hid (Win wr bM j [.int .u8 ((q + t : Nat) : Int)]) := fun k hk => by
        obtain rfl : k = 0 := by simp at hk; omega
        exact hmj
      have Hy := Lib.hid hy
      clear pc pX pI pJ pM pB pm pr pg hD1 hD2 hD3 hDn hD1c hcs hy hgi hgj hmj hTr hcsm hcS hD1s hD2s hD3s
      obtain ⟨z, hz⟩ : ∃ z : Int, ((q + t : Nat) : Int) = z := ⟨_, rfl⟩
      have hzb : 0 ≤ z ∧ z ≤ 20 := by omega
      rw [hz] at Hk HD3
      have Hz := Lib.hid hz; clear hz
      obtain ⟨ct, hct⟩ : ∃ ct : Int, (ch p t : Int) = ct := ⟨_, rfl⟩
      have hctb : 0 ≤ ct ∧ ct ≤ 1048576 := by omega
      rw [hct] at hrt HD1
      clear hct hchl
      have Hb : Hid (Below wr.heap.size wr wr) := Below.refl _ _
      have hwz1 : IntKind.i64.wrap z = z := by rw [IntKind.wrap_i64]; omega
      have hwz2 : IntKind.i64.wrap (-z) = -z := by rw [IntKind.wrap_i64]; omega
      go_wp2_with fail
      have c0 : wr.cell? ⟨w.heap.size, 0, none⟩ = some (.bool s) := Hc.out.cell 0
      have c1 : wr.cell? ⟨w.heap.size, 1, none⟩ = some (.string (bs m)) := Hc.out.cell 1
      have c2 : wr.cell? ⟨w.heap.size, 2, none⟩ = some (.int .i64 e) := Hc.out.cell 2
      have x0 : wr.cell? ⟨bx, 0, none⟩ = some (.int .i64 v) := Hx.out.cell 0
      have x1 : wr.cell? ⟨bx, 1, none⟩ = some (.int .i64 d) := Hx.out.cell 1
      have x2 : wr.cell? ⟨bx, 2, none⟩ = some (.slice (some ⟨bB, 0, none⟩) ds.length ds.length) := Hx.out.cell 2
      have x3 : wr.cell? ⟨bx, 3, none⟩ = some (.map (some bm)) := Hx.out.cell 3
      have j0 : wr.cell? ⟨bj, 0, none⟩ = some (.int .i64 (j : Int)) := Hj.out.cell 0
      have k0 : wr.cell? ⟨bM, j, none⟩ = some (.int .u8 z) := Hk.out.cell 0 (by simp)
      refine wp_region_plan (fun w' => w'.cell? ⟨w.heap.size, 0, none⟩ = some (.bool s) ∧ w'.cell? ⟨w.heap.size, 1, none⟩ = some (.string (bs m)) ∧ w'.cell? ⟨w.heap.size, 2, none⟩ = some (.int .i64 e) ∧ w'.cell? ⟨bx, 0, none⟩ = some (.int .i64 v) ∧ w'.cell? ⟨bx, 1, none⟩ = some (.int .i64 d) ∧ w'.cell? ⟨bx, 2, none⟩ = some (.slice (some ⟨bB, 0, none⟩) ds.length ds.length) ∧ w'.cell? ⟨bx, 3, none⟩ = some (.map (some bm)) ∧ w'.cell? ⟨bj, 0, none⟩ = some (.int .i64 (j : Int)) ∧ w'.cell? ⟨bM, j, none⟩ = some (.int .u8 z)) (fun i => Nat.blt i 100000) [(0, true), (1, true), (2, true), (3, true), (7, true), (8, true), (9, true), (10, true), (11, true), (12, true), (4, false), (5, false), (6, false), (13, false), (14, false)] (by kernel_rfl) (by kernel_rfl) rfl (by kernel_rfl) (fun o c a v w => by cases o.dst <;> exact id) ⟨c0, c1, c2, x0, x1, x2, x3, j0, k0⟩ ?_
      refine planT rfl rfl (v := ?_) (fun w' hw' => ?_) ?_; rotate_left; focus (obtain ⟨q0, q1, q2, q3, q4, q5, q6, q7, q8⟩ := hw'; go_simp; try with_reducible rfl)
      try simp only [Act.put, List.setIfInBounds_toArray, List.set_cons_zero, List.set_cons_succ]
      refine planT rfl rfl (v := ?_) (fun w' hw' => ?_) ?_; rotate_left; focus (go_simp; try with_reducible rfl)
      try simp only [Act.put, List.setIfInBounds_toArray, List.set_cons_zero, List.set_cons_succ]
      refine planT rfl rfl (v := ?_) (fun w' hw' => ?_) ?_; rotate_left; focus (obtain ⟨q0, q1, q2, q3, q4, q5, q6, q7, q8⟩ := hw'; go_simp; try with_reducible rfl)
      try simp only [Act.put, List.setIfInBounds_toArray, List.set_cons_zero, List.set_cons_succ]
      refine planT rfl rfl (v := ?_) (fun w' hw' => ?_) ?_; rotate_left; focus (go_simp; try with_reducible rfl)
      try simp only [Act.put, List.setIfInBounds_toArray, List.set_cons_zero, List.set_cons_succ]
      refine planT rfl rfl (v := ?_) (fun w' hw' => ?_) ?_; rotate_left; focus (go_simp; try with_reducible rfl)
      try simp only [Act.put, List.setIfInBounds_toArray, List.set_cons_zero, List.set_cons_succ]
      refine planT rfl rfl (v := ?_) (fun w' hw' => ?_) ?_; rotate_left; focus (obtain ⟨q0, q1, q2, q3, q4, q5, q6, q7, q8⟩ := hw'; go_simp; try with_reducible rfl)
      try simp only [Act.put, List.setIfInBounds_toArray, List.set_cons_zero, List.set_cons_succ]
      refine planT rfl rfl (v := ?_) (fun w' hw' => ?_) ?_; rotate_left; focus (go_simp; try with_reducible rfl)
      try simp only [Act.put, List.setIfInBounds_toArray, List.set_cons_zero, List.set_cons_succ]
      refine planT rfl rfl (v := ?_) (fun w' hw' => ?_) ?_; rotate_left; focus (obtain ⟨q0, q1, q2, q3, q4, q5, q6, q7, q8⟩ := hw'; go_simp; try with_reducible rfl)
      try simp only [Act.put, List.setIfInBounds_toArray, List.set_cons_zero, List.set_cons_succ]
      refine planT rfl rfl (v := ?_) (fun w' hw' => ?_) ?_; rotate_left; focus (obtain ⟨q0, q1, q2, q3, q4, q5, q6, q7, q8⟩ := hw'; go_simp; try with_reducible rfl)
      try simp only [Act.put, List.setIfInBounds_toArray, List.set_cons_zero, List.set_cons_succ]
      refine planT rfl rfl (v := ?_) (fun w' hw' => ?_) ?_; rotate_left; focus (go_simp; try with_reducible rfl)
      try simp only [Act.put, List.setIfInBounds_toArray, List.set_cons_zero, List.set_cons_succ]
      refine planF rfl rfl (fun K hK => ?_)
      go_simp
      with_reducible refine (dOf_any ct D1 HD1.out _ (by omega) (by first | exact (HTr.out.below Hb.out) | exact Tab.drew (HTr.out.below Hb.out) | exact Tab.alloc (HTr.out.below Hb.out) _ | exact Tab.drew (Tab.alloc (HTr.out.below Hb.out) _) | exact Tab.alloc (Tab.drew (HTr.out.below Hb.out)) _)).mono ?_
      rintro e w3 ⟨rfl, hq⟩
      have hbn : Below wr.heap.size wr w3 := (by first | exact hq | exact bundrew hq); clear hq
      clear c0 c1 c2
      clear x0 x1 x2 x3
      clear j0
      clear k0
      replace Hc := Lib.hid (Hc.out.below hbn)
      replace Hx := Lib.hid (Hx.out.below hbn)
      replace Hj := Lib.hid (Hj.out.below hbn)
      replace Hk := Lib.hid (Hk.out.below hbn)
      have c0 : w3.cell? ⟨w.heap.size, 0, none⟩ = some (.bool s) := Hc.out.cell 0
      have c1 : w3.cell? ⟨w.heap.size, 1, none⟩ = some (.string (bs m)) := Hc.out.cell 1
      have c2 : w3.cell? ⟨w.heap.size, 2, none⟩ = some (.int .i64 e) := Hc.out.cell 2
      have x0 : w3.cell? ⟨bx, 0, none⟩ = some (.int .i64 v) := Hx.out.cell 0
      have x1 : w3.cell? ⟨bx, 1, none⟩ = some (.int .i64 d) := Hx.out.cell 1
      have x2 : w3.cell? ⟨bx, 2, none⟩ = some (.slice (some ⟨bB, 0, none⟩) ds.length ds.length) := Hx.out.cell 2
      have x3 : w3.cell? ⟨bx, 3, none⟩ = some (.map (some bm)) := Hx.out.cell 3
      have j0 : w3.cell? ⟨bj, 0, none⟩ = some (.int .i64 (j : Int)) := Hj.out.cell 0
      have k0 : w3.cell? ⟨bM, j, none⟩ = some (.int .u8 z) := Hk.out.cell 0 (by simp)
      replace Hb := Lib.hid (bnext Hb.out hbn); clear hbn
      refine hK _ _ (fun _ => ⟨c0, c1, c2, x0, x1, x2, x3, j0, k0⟩) ?_; clear hK K
      try simp only [Act.put, List.setIfInBounds_toArray, List.set_cons_zero, List.set_cons_succ]
      refine planF rfl rfl (fun K hK => ?_)
      go_simp
      refine hK _ _ (fun _ => ⟨cell_new c0, cell_new c1, cell_new c2, cell_new x0, cell_new x1, cell_new x2, cell_new x3, cell_new j0, cell_new k0⟩) ?_; clear hK K
      try simp only [Act.put, List.setIfInBounds_toArray, List.set_cons_zero, List.set_cons_succ]
      refine plan_world (fun w4 => Blk w4 (w3.heap.size) 36 [.bool s, .string (bs m), .int .i64 e, .bool (sgnB (dN D1)), .string (bs (nt (dN D1).natAbs)), .int .i64 (dE D1)] ∧ Below w3.heap.size w3 w4) (by first | exact ⟨Blk.new _ _ _, (Below.refl _ _).alloc (Nat.le_refl _) _⟩ | exact ⟨Blk.drew (Blk.new _ _ _), ((Below.refl _ _).alloc (Nat.le_refl _) _).drew⟩) ?_
      rintro w4 ⟨qa, hbn⟩
      clear c0 c1 c2
      clear x0 x1 x2 x3
      clear j0
      clear k0
      have lz_c_w4 : w.heap.size < w3.heap.size := Hc.out.lt
      have lz_x_w4 : bx < w3.heap.size := Hx.out.lt
      have lz_j_w4 : bj < w3.heap.size := Hj.out.lt
      replace Hc := Lib.hid (Hc.out.below hbn)
      replace Hx := Lib.hid (Hx.out.below hbn)
      replace Hj := Lib.hid (Hj.out.below hbn)
      replace Hk := Lib.hid (Hk.out.below hbn)
      have Ha := Lib.hid qa; clear qa
      have c0 : w4.cell? ⟨w.heap.size, 0, none⟩ = some (.bool s) := Hc.out.cell 0
      have c1 : w4.cell? ⟨w.heap.size, 1, none⟩ = some (.string (bs m)) := Hc.out.cell 1
      have c2 : w4.cell? ⟨w.heap.size, 2, none⟩ = some (.int .i64 e) := Hc.out.cell 2
      have x0 : w4.cell? ⟨bx, 0, none⟩ = some (.int .i64 v) := Hx.out.cell 0
      have x1 : w4.cell? ⟨bx, 1, none⟩ = some (.int .i64 d) := Hx.out.cell 1
      have x2 : w4.cell? ⟨bx, 2, none⟩ = some (.slice (some ⟨bB, 0, none⟩) ds.length ds.length) := Hx.out.cell 2
      have x3 : w4.cell? ⟨bx, 3, none⟩ = some (.map (some bm)) := Hx.out.cell 3
      have j0 : w4.cell? ⟨bj, 0, none⟩ = some (.int .i64 (j : Int)) := Hj.out.cell 0
      have k0 : w4.cell? ⟨bM, j, none⟩ = some (.int .u8 z) := Hk.out.cell 0 (by simp)
      have a0 : w4.cell? ⟨w3.heap.size, 0, none⟩ = some (.bool s) := Ha.out.cell 0
      have a1 : w4.cell? ⟨w3.heap.size, 1, none⟩ = some (.string (bs m)) := Ha.out.cell 1
      have a2 : w4.cell? ⟨w3.heap.size, 2, none⟩ = some (.int .i64 e) := Ha.out.cell 2
      have a3 : w4.cell? ⟨w3.heap.size, 3, none⟩ = some (.bool (sgnB (dN D1))) := Ha.out.cell 3
      have a4 : w4.cell? ⟨w3.heap.size, 4, none⟩ = some (.string (bs (nt (dN D1).natAbs))) := Ha.out.cell 4
      have a5 : w4.cell? ⟨w3.heap.size, 5, none⟩ = some (.int .i64 (dE D1)) := Ha.out.cell 5
      replace Hb := Lib.hid (bnext Hb.out hbn); clear hbn
      refine planF rfl rfl (fun K hK => ?_)
      go_simp
      with_reducible refine (dMul_two s m e (sgnB (dN D1)) (nt (dN D1).natAbs) (dE D1) D2 (B + 21) HD2.out w3.heap.size 2 36 _ HFx.out HF1.out (by omega) Ha.out (by first | exact (HTr.out.below Hb.out) | exact Tab.drew (HTr.out.below Hb.out) | exact Tab.alloc (HTr.out.below Hb.out) _ | exact Tab.drew (Tab.alloc (HTr.out.below Hb.out) _) | exact Tab.alloc (Tab.drew (HTr.out.below Hb.out)) _)).mono ?_
      rintro e w5 ⟨rfl, hq⟩
      have hbn : Below w4.heap.size w4 w5 := (by first | exact hq | exact bundrew hq); clear hq
      clear c0 c1 c2
      clear x0 x1 x2 x3
      clear j0
      clear k0
      clear a0 a1 a2 a3 a4 a5
      replace Hc := Lib.hid (Hc.out.below hbn)
      replace Hx := Lib.hid (Hx.out.below hbn)
      replace Hj := Lib.hid (Hj.out.below hbn)
      replace Hk := Lib.hid (Hk.out.below hbn)
      replace Ha := Lib.hid (Ha.out.below hbn)
      have c0 : w5.cell? ⟨w.heap.size, 0, none⟩ = some (.bool s) := Hc.out.cell 0
      have c1 : w5.cell? ⟨w.heap.size, 1, none⟩ = some (.string (bs m)) := Hc.out.cell 1
      have c2 : w5.cell? ⟨w.heap.size, 2, none⟩ = some (.int .i64 e) := Hc.out.cell 2
      have x0 : w5.cell? ⟨bx, 0, none⟩ = some (.int .i64 v) := Hx.out.cell 0
      have x1 : w5.cell? ⟨bx, 1, none⟩ = some (.int .i64 d) := Hx.out.cell 1
      have x2 : w5.cell? ⟨bx, 2, none⟩ = some (.slice (some ⟨bB, 0, none⟩) ds.length ds.length) := Hx.out.cell 2
      have x3 : w5.cell? ⟨bx, 3, none⟩ = some (.map (some bm)) := Hx.out.cell 3
      have j0 : w5.cell? ⟨bj, 0, none⟩ = some (.int .i64 (j : Int)) := Hj.out.cell 0
      have k0 : w5.cell? ⟨bM, j, none⟩ = some (.int .u8 z) := Hk.out.cell 0 (by simp)
      have a0 : w5.cell? ⟨w3.heap.size, 0, none⟩ = some (.bool s) := Ha.out.cell 0
      have a1 : w5.cell? ⟨w3.heap.size, 1, none⟩ = some (.string (bs m)) := Ha.out.cell 1
      have a2 : w5.cell? ⟨w3.heap.size, 2, none⟩ = some (.int .i64 e) := Ha.out.cell 2
      have a3 : w5.cell? ⟨w3.heap.size, 3, none⟩ = some (.bool (sgnB (dN D1))) := Ha.out.cell 3
      have a4 : w5.cell? ⟨w3.heap.size, 4, none⟩ = some (.string (bs (nt (dN D1).natAbs))) := Ha.out.cell 4
      have a5 : w5.cell? ⟨w3.heap.size, 5, none⟩ = some (.int .i64 (dE D1)) := Ha.out.cell 5
      replace Hb := Lib.hid (bnext Hb.out hbn); clear hbn
      refine hK _ _ (fun _ => ⟨c0, c1, c2, x0, x1, x2, x3, j0, k0⟩) ?_; clear hK K
      try simp only [Act.put, List.setIfInBounds_toArray, List.set_cons_zero, List.set_cons_succ]
      refine planF rfl rfl (fun K hK => ?_)
      go_simp
      with_reducible refine (shift_any (sgnB (dN D2)) (nt (dN D2).natAbs) (dE D2) (-z) D3 HD3.out _ HO2.out (by omega) (by first | exact (HTr.out.below Hb.out) | exact Tab.drew (HTr.out.below Hb.out) | exact Tab.alloc (HTr.out.below Hb.out) _ | exact Tab.drew (Tab.alloc (HTr.out.below Hb.out) _) | exact Tab.alloc (Tab.drew (HTr.out.below Hb.out)) _)).mono ?_
      rintro e w6 ⟨rfl, hq⟩
      have hbn : Below w5.heap.size w5 w6 := (by first | exact hq | exact bundrew hq); clear hq
      clear c0 c1 c2
      clear x0 x1 x2 x3
      clear j0
      clear k0
      clear a0 a1 a2 a3 a4 a5
      replace Hc := Lib.hid (Hc.out.below hbn)
      replace Hx := Lib.hid (Hx.out.below hbn)
      replace Hj := Lib.hid (Hj.out.below hbn)
      replace Hk := Lib.hid (Hk.out.below hbn)
      replace Ha := Lib.hid (Ha.out.below hbn)
      have c0 : w6.cell? ⟨w.heap.size, 0, none⟩ = some (.bool s) := Hc.out.cell 0
      have c1 : w6.cell? ⟨w.heap.size, 1, none⟩ = some (.string (bs m)) := Hc.out.cell 1
      have c2 : w6.cell? ⟨w.heap.size, 2, none⟩ = some (.int .i64 e) := Hc.out.cell 2
      have x0 : w6.cell? ⟨bx, 0, none⟩ = some (.int .i64 v) := Hx.out.cell 0
      have x1 : w6.cell? ⟨bx, 1, none⟩ = some (.int .i64 d) := Hx.out.cell 1
      have x2 : w6.cell? ⟨bx, 2, none⟩ = some (.slice (some ⟨bB, 0, none⟩) ds.length ds.length) := Hx.out.cell 2
      have x3 : w6.cell? ⟨bx, 3, none⟩ = some (.map (some bm)) := Hx.out.cell 3
      have j0 : w6.cell? ⟨bj, 0, none⟩ = some (.int .i64 (j : Int)) := Hj.out.cell 0
      have k0 : w6.cell? ⟨bM, j, none⟩ = some (.int .u8 z) := Hk.out.cell 0 (by simp)
      have a0 : w6.cell? ⟨w3.heap.size, 0, none⟩ = some (.bool s) := Ha.out.cell 0
      have a1 : w6.cell? ⟨w3.heap.size, 1, none⟩ = some (.string (bs m)) := Ha.out.cell 1
      have a2 : w6.cell? ⟨w3.heap.size, 2, none⟩ = some (.int .i64 e) := Ha.out.cell 2
      have a3 : w6.cell? ⟨w3.heap.size, 3, none⟩ = some (.bool (sgnB (dN D1))) := Ha.out.cell 3
      have a4 : w6.cell? ⟨w3.heap.size, 4, none⟩ = some (.string (bs (nt (dN D1).natAbs))) := Ha.out.cell 4
      have a5 : w6.cell? ⟨w3.heap.size, 5, none⟩ = some (.int .i64 (dE D1)) := Ha.out.cell 5
      replace Hb := Lib.hid (bnext Hb.out hbn); clear hbn
      refine hK _ _ (fun _ => ⟨c0, c1, c2, x0, x1, x2, x3, j0, k0⟩) ?_; clear hK K
      try simp only [Act.put, List.setIfInBounds_toArray, List.set_cons_zero, List.set_cons_succ]
      refine planF rfl rfl (fun K hK => ?_)
      go_simp
      refine (Hput.out w6 Hb.out).mono ?_
      rintro e' w7 ⟨⟨r, rfl⟩, qB, qg⟩
      have kp : ∀ b, b ≠ bB → some b ≠ some bB := fun b h e => h (by cases e; rfl)
      have C7 : Chg (fun b => b = bM ∨ b = bB) w w7 := (Hpg.out.trans (Chg.of_below (Y := fun b => b = bM ∨ b = bB) Hb.out) (fun b h => .inl h)).trans (Chg.of_grown (Y := fun b => b = bM ∨ b = bB) qg (fun b e => by cases e; exact .inr rfl)) (fun b h => .inl h)
      have z6 := Hb.out.size
      have lw1 := Hpr.out.lt; have lw0 := Hlw.out
      have Gc := Lib.hid (Hc.out.grown qg (kp _ (by omega))); have Gx := Lib.hid (Hx.out.grown qg (kp _ nXB)); have Gj := Lib.hid (Hj.out.grown qg (kp _ (fun e => nBJ e.symm)))
      have Gi := Lib.hid ((HpI.out.below Hb.out).grown qg (kp _ (fun e => nBI e.symm))); have GM := Lib.hid ((HpM.out.below Hb.out).grown qg (kp _ nMB)); have Gr := Lib.hid ((Hpr.out.below Hb.out).grown qg (kp _ (by omega)))
      have Gm := Lib.hid ((Hpm.out.below Hb.out).kept qg (kp _ nmB))
      rw [Hst.out] at qB
      have GB := Lib.hid qB; have HC7 := Lib.hid C7
      clear lw1 lw0 z6
      refine hK _ _ (fun _ => ⟨Gc.out.cell 0, Gc.out.cell 1, Gc.out.cell 2, Gx.out.cell 0, Gx.out.cell 1, Gx.out.cell 2, Gx.out.cell 3, Gj.out.cell 0, grownBy_cell qg k0 (kp _ nMB)⟩) ?_
      have k7 : w7.cell? ⟨bM, j, none⟩ = some (.int .u8 z) := grownBy_cell qg k0 (kp _ nMB)
      clear hK K c0 c1 c2 x0 x1 x2 x3 j0 k0 qg qB C7 Hput Hb Ha
      try simp only [Act.put, List.setIfInBounds_toArray, List.set_cons_zero, List.set_cons_succ]
      simp only [wpPlan]
      obtain ⟨u, hu⟩ : ∃ u : Int, ((p - t : Nat) : Int) = u := ⟨_, rfl⟩
      have hub : 0 ≤ u ∧ u ≤ 20 := by omega
      have i7 : w7.cell? ⟨bi, 0, none⟩ = some (.int .i64 (i : Int)) := Gi.out.cell 0
      have m7 : w7.cell? ⟨bM, i, none⟩ = some (.int .u8 u) := by rw [GM.out.cell, Hmi.out, hu]
      have j7 : w7.cell? ⟨bj, 0, none⟩ = some (.int .i64 (j : Int)) := Gj.out.cell 0
      have fi : w7.frozen? ⟨bM, i, none⟩ = false := GM.out.free _
      by_cases hpt : t < p
      · have hu1 : 0 < u := by omega
        have hwu : IntKind.u8.wrap (u - 1) = u - 1 := by rw [IntKind.wrap_u8]; omega
        have hwz : IntKind.u8.wrap (z + 1) = z + 1 := by rw [IntKind.wrap_u8]; omega
        obtain ⟨W8, hW8⟩ : ∃ W8, w7.setCell ⟨bM, i, none⟩ (.int .u8 (u - 1)) = W8 := ⟨_, rfl⟩
        have GM8 : Hid (Blk W8 bM 5 (byteC ((y.set i (p - t - 1)).map UInt8.ofNat))) := by
          show Blk _ _ _ _
          rw [← hW8, ← byteC_row_set y i (p - t - 1) (by omega), show ((p - t - 1 : Nat) : Int) = u - 1 by omega]
          exact GM.out.set i _
        have j8 : W8.cell? ⟨bj, 0, none⟩ = some (.int .i64 (j : Int)) := by rw [← hW8]; exact (Gj.out.set_other ⟨bM, i, none⟩ nMJ _).cell 0
        have k8 : W8.cell? ⟨bM, j, none⟩ = some (.int .u8 z) := by rw [← hW8]; exact cell_set_at (.inr (fun e => hij e.symm)) k7
        have fj : W8.frozen? ⟨bM, j, none⟩ = false := GM8.out.free _
        obtain ⟨W9, hW9⟩ : ∃ W9, W8.setCell ⟨bM, j, none⟩ (.int .u8 (z + 1)) = W9 := ⟨_, rfl⟩
        have GM9 : Hid (Blk W9 bM 5 (byteC ((mv x i j (min (t + 1) p)).map UInt8.ofNat))) := by
          show Blk _ _ _ _
          rw [Nat.min_eq_left (by omega), ← mv_step x i j t hij hi hj, Hy.out, Hp0.out, Hq0.out, ← hW9, ← byteC_row_set _ j (q + t + 1) (by omega), show ((q + t + 1 : Nat) : Int) = z + 1 by have := Hz.out; omega]
          exact GM8.out.set j _
        have so : ∀ {b : Nat} {ty : TypeId} {cs : List Value}, bM ≠ b → Blk w7 b ty cs → Blk W9 b ty cs := fun h1 h2 => by
          rw [← hW9, ← hW8]; exact (h2.set_other ⟨bM, i, none⟩ h1 _).set_other ⟨bM, j, none⟩ h1 _
        have Gm9 : Hid (Mp W9 bm n f) := by
          show Mp _ _ _ _
          rw [← hW9, ← hW8]; exact (Gm.out.set ⟨bM, i, none⟩ nmM _).set ⟨bM, j, none⟩ nmM _
        have GC9 : Hid (Chg (fun b => b = bM ∨ b = bB) w W9) := by
          show Chg _ _ _
          rw [← hW9, ← hW8]
          exact (HC7.out.trans (Chg.of_grown (Y := fun b => b = bM ∨ b = bB) (grownBy_set bM rfl _) (fun b e => by cases e; exact .inl rfl)) (fun b h => .inl h)).trans (Chg.of_grown (Y := fun b => b = bM ∨ b = bB) (grownBy_set bM rfl _) (fun b e => by cases e; exact .inl rfl)) (fun b h => .inl h)
        have lw0 := Hlw.out
        have K1 := Lib.hid (so (by omega) Gc.out); have K2 := Lib.hid (so nMX Gx.out); have K3 := Lib.hid (so nMI Gi.out); have K4 := Lib.hid (so nMJ Gj.out); have K5 := Lib.hid (so nMB GB.out); have K6 := Lib.hid (so (by omega) Gr.out)
        clear so lw0 k7 j7 hu
        go_wp2
        go_roundw
        case rel => exact ⟨t + 1, by omega, by go_num, K1.out, K2.out, K3.out, K4.out, GM9.out, K5.out, Gm9.out, K6.out, GC9.out⟩
        case measure => simp [intOf]; omega
      · obtain rfl : t = p := by omega
        have hu1 : u = 0 := by omega
        subst hu1
        go_wp2
        go_roundw
        case rel =>
          refine ⟨t + 1, by omega, by go_num, Gc.out, Gx.out, Gi.out, Gj.out, ?_, GB.out, Gm.out, Gr.out, HC7.out⟩
          rw [Nat.min_eq_right (by omega), Hy.out]; exact GM.out
        case measure => simp [intOf]
    · obtain rfl : t = p + 1 := by omega
      go_wp2
      go_end0
      exact ⟨⟨_, rfl⟩, pB, pg⟩
end Go.Proofs.YtidjljldhdckiaaGreatDoor
