/- The law ScastOrder answers true, whatever the forms and corners. -/
import Derived.Test.YtidjljldhdckiaaGreatDoorKAw3
import Derived.Test.YtidjljldhdckiaaGreatDoorKOrd1
namespace Go.Proofs.YtidjljldhdckiaaGreatDoor
open Go.RowKit
attribute [local go_sem ↓] Go.wp_at_zero Go.wp_at_succ

set_option maxHeartbeats 16000000 in
set_option maxRecDepth 100000 in
theorem order_any (v d : Int) (a : Option Addr) (N cap : Nat) (raws : List Raw) (v' d' : Int) (a' : Option Addr) (N' cap' : Nat) (raws' : List Raw) (i j : Int) (w : World)
    (hN : raws.length = N) (hN' : raws'.length = N') (ha : At w a (raws.flatMap numC)) (ha' : At w a' (raws'.flatMap numC)) (hT : Tab w) :
    Calls Tryz.prog 3 #[.agg #[.int .i64 v, .int .i64 d, .slice a N cap], .agg #[.int .i64 v', .int .i64 d', .slice a' N' cap'], .int .i64 i, .int .i64 j] w fun e w' => e = .returned (.bool true) ∧ Below w.heap.size w w' := by
  have HA0 := Lib.hid ha; have HG0 := Lib.hid ha'; have HT0 := Lib.hid hT; have HN := Lib.hid hN; have HN' := Lib.hid hN'
  clear ha ha' hT hN hN'
  obtain ⟨cs, hcs⟩ : ∃ cs, raws.map dval = cs := ⟨_, rfl⟩
  obtain ⟨cs', hcs'⟩ : ∃ cs', raws'.map dval = cs' := ⟨_, rfl⟩
  have Hcs := Lib.hid hcs; have Hcs' := Lib.hid hcs'; clear hcs hcs'
  obtain ⟨W, hW_W⟩ : ∃ W, ((w.alloc (.cells #[.int .i64 v, .int .i64 d, .slice a N cap] 24)).alloc (.cells #[.int .i64 v', .int .i64 d', .slice a' N' cap'] 24)) = W := ⟨_, rfl⟩
  have Hb : Hid (Below w.heap.size w W) := by rw [← hW_W]; exact (((Below.refl _ _).alloc (Nat.le_refl _) _).alloc (by simp <;> omega) _)
  have Hf : Hid (Blk W (w.heap.size) 24 [.int .i64 v, .int .i64 d, .slice a N cap]) := by rw [← hW_W]; exact (Blk.newAt _ _ _ (by simp)).alloc _
  have Hg : Hid (Blk W (w.heap.size + 1) 24 [.int .i64 v', .int .i64 d', .slice a' N' cap']) := by rw [← hW_W]; exact Blk.newAt _ _ _ (by simp)
  have f0 : W.cell? ⟨w.heap.size, 0, none⟩ = some (.int .i64 v) := Hf.out.cell 0
  have f1 : W.cell? ⟨w.heap.size, 1, none⟩ = some (.int .i64 d) := Hf.out.cell 1
  have f2 : W.cell? ⟨w.heap.size, 2, none⟩ = some (.slice a N cap) := Hf.out.cell 2
  have g0 : W.cell? ⟨w.heap.size + 1, 0, none⟩ = some (.int .i64 v') := Hg.out.cell 0
  have g1 : W.cell? ⟨w.heap.size + 1, 1, none⟩ = some (.int .i64 d') := Hg.out.cell 1
  have g2 : W.cell? ⟨w.heap.size + 1, 2, none⟩ = some (.slice a' N' cap') := Hg.out.cell 2
  have HA : Hid (At W a (raws.flatMap numC)) := HA0.out.below Hb.out
  have HG : Hid (At W a' (raws'.flatMap numC)) := HG0.out.below Hb.out
  have HT : Hid (Tab W) := HT0.out.below Hb.out
  go_enter Tryz.func3, Tryz.ntmps3
  go_wp2_with fail
  refine (vast_any v d a N cap raws _ HN.out HA.out).mono ?_
  rintro e w1 ⟨⟨t, rfl, hfair⟩, hbn⟩
  clear f0 f1 f2
  clear g0 g1 g2
  replace Hf := Lib.hid (Hf.out.below hbn)
  replace Hg := Lib.hid (Hg.out.below hbn)
  replace HA := Lib.hid (HA.out.below hbn)
  replace HG := Lib.hid (HG.out.below hbn)
  replace HT := Lib.hid (HT.out.below hbn)
  have f0 : w1.cell? ⟨w.heap.size, 0, none⟩ = some (.int .i64 v) := Hf.out.cell 0
  have f1 : w1.cell? ⟨w.heap.size, 1, none⟩ = some (.int .i64 d) := Hf.out.cell 1
  have f2 : w1.cell? ⟨w.heap.size, 2, none⟩ = some (.slice a N cap) := Hf.out.cell 2
  have g0 : w1.cell? ⟨w.heap.size + 1, 0, none⟩ = some (.int .i64 v') := Hg.out.cell 0
  have g1 : w1.cell? ⟨w.heap.size + 1, 1, none⟩ = some (.int .i64 d') := Hg.out.cell 1
  have g2 : w1.cell? ⟨w.heap.size + 1, 2, none⟩ = some (.slice a' N' cap') := Hg.out.cell 2
  replace Hb := Lib.hid (bnext Hb.out hbn); clear hbn
  cases t with
  | true =>
    clear hfair
    go_wp2_with fail
    refine (awake_any _ HT.out).mono ?_
    rintro e z1 ⟨rfl, hbn⟩
    clear f0 f1 f2
    clear g0 g1 g2
    replace Hf := Lib.hid (Hf.out.below hbn)
    replace Hg := Lib.hid (Hg.out.below hbn)
    replace HA := Lib.hid (HA.out.below hbn)
    replace HG := Lib.hid (HG.out.below hbn)
    replace HT := Lib.hid (HT.out.below hbn)
    have f0 : z1.cell? ⟨w.heap.size, 0, none⟩ = some (.int .i64 v) := Hf.out.cell 0
    have f1 : z1.cell? ⟨w.heap.size, 1, none⟩ = some (.int .i64 d) := Hf.out.cell 1
    have f2 : z1.cell? ⟨w.heap.size, 2, none⟩ = some (.slice a N cap) := Hf.out.cell 2
    have g0 : z1.cell? ⟨w.heap.size + 1, 0, none⟩ = some (.int .i64 v') := Hg.out.cell 0
    have g1 : z1.cell? ⟨w.heap.size + 1, 1, none⟩ = some (.int .i64 d') := Hg.out.cell 1
    have g2 : z1.cell? ⟨w.heap.size + 1, 2, none⟩ = some (.slice a' N' cap') := Hg.out.cell 2
    replace Hb := Lib.hid (bnext Hb.out hbn); clear hbn
    go_wp2
    refine bodyPost_ret (v := .bool true) (by simp [results, Tryz.results3, go_sem]) rfl ⟨rfl, ?_⟩
    (repeat first | exact Hb.out | (refine Below.setCell ?_ (by have := Hb.out.size; first | (dsimp only; omega) | (show _ ≤ _; omega) | (simp <;> omega)) _) | (refine Below.alloc ?_ (by have := Hb.out.size; simp <;> omega) _) | refine Below.drew ?_)
  | false =>
    have Hfair := Lib.hid (hfair rfl); clear hfair
    go_wp2_with fail
    refine (vast_any v' d' a' N' cap' raws' _ HN'.out HG.out).mono ?_
    rintro e w2 ⟨⟨t, rfl, hfair⟩, hbn⟩
    clear f0 f1 f2
    clear g0 g1 g2
    replace Hf := Lib.hid (Hf.out.below hbn)
    replace Hg := Lib.hid (Hg.out.below hbn)
    replace HA := Lib.hid (HA.out.below hbn)
    replace HG := Lib.hid (HG.out.below hbn)
    replace HT := Lib.hid (HT.out.below hbn)
    have f0 : w2.cell? ⟨w.heap.size, 0, none⟩ = some (.int .i64 v) := Hf.out.cell 0
    have f1 : w2.cell? ⟨w.heap.size, 1, none⟩ = some (.int .i64 d) := Hf.out.cell 1
    have f2 : w2.cell? ⟨w.heap.size, 2, none⟩ = some (.slice a N cap) := Hf.out.cell 2
    have g0 : w2.cell? ⟨w.heap.size + 1, 0, none⟩ = some (.int .i64 v') := Hg.out.cell 0
    have g1 : w2.cell? ⟨w.heap.size + 1, 1, none⟩ = some (.int .i64 d') := Hg.out.cell 1
    have g2 : w2.cell? ⟨w.heap.size + 1, 2, none⟩ = some (.slice a' N' cap') := Hg.out.cell 2
    replace Hb := Lib.hid (bnext Hb.out hbn); clear hbn
    cases t with
    | true =>
      clear hfair
      go_wp2_with fail
      refine (awake_any _ HT.out).mono ?_
      rintro e z1 ⟨rfl, hbn⟩
      clear f0 f1 f2
      clear g0 g1 g2
      replace Hf := Lib.hid (Hf.out.below hbn)
      replace Hg := Lib.hid (Hg.out.below hbn)
      replace HA := Lib.hid (HA.out.below hbn)
      replace HG := Lib.hid (HG.out.below hbn)
      replace HT := Lib.hid (HT.out.below hbn)
      have f0 : z1.cell? ⟨w.heap.size, 0, none⟩ = some (.int .i64 v) := Hf.out.cell 0
      have f1 : z1.cell? ⟨w.heap.size, 1, none⟩ = some (.int .i64 d) := Hf.out.cell 1
      have f2 : z1.cell? ⟨w.heap.size, 2, none⟩ = some (.slice a N cap) := Hf.out.cell 2
      have g0 : z1.cell? ⟨w.heap.size + 1, 0, none⟩ = some (.int .i64 v') := Hg.out.cell 0
      have g1 : z1.cell? ⟨w.heap.size + 1, 1, none⟩ = some (.int .i64 d') := Hg.out.cell 1
      have g2 : z1.cell? ⟨w.heap.size + 1, 2, none⟩ = some (.slice a' N' cap') := Hg.out.cell 2
      replace Hb := Lib.hid (bnext Hb.out hbn); clear hbn
      go_wp2
      refine bodyPost_ret (v := .bool true) (by simp [results, Tryz.results3, go_sem]) rfl ⟨rfl, ?_⟩
      (repeat first | exact Hb.out | (refine Below.setCell ?_ (by have := Hb.out.size; first | (dsimp only; omega) | (show _ ≤ _; omega) | (simp <;> omega)) _) | (refine Below.alloc ?_ (by have := Hb.out.size; simp <;> omega) _) | refine Below.drew ?_)
    | false =>
      have Hfair' := Lib.hid (hfair rfl); clear hfair
      by_cases hd5 : 5 < d
      · go_wp2_with fail
        refine (awake_any _ HT.out).mono ?_
        rintro e z1 ⟨rfl, hbn⟩
        clear f0 f1 f2
        clear g0 g1 g2
        replace Hf := Lib.hid (Hf.out.below hbn)
        replace Hg := Lib.hid (Hg.out.below hbn)
        replace HA := Lib.hid (HA.out.below hbn)
        replace HG := Lib.hid (HG.out.below hbn)
        replace HT := Lib.hid (HT.out.below hbn)
        have f0 : z1.cell? ⟨w.heap.size, 0, none⟩ = some (.int .i64 v) := Hf.out.cell 0
        have f1 : z1.cell? ⟨w.heap.size, 1, none⟩ = some (.int .i64 d) := Hf.out.cell 1
        have f2 : z1.cell? ⟨w.heap.size, 2, none⟩ = some (.slice a N cap) := Hf.out.cell 2
        have g0 : z1.cell? ⟨w.heap.size + 1, 0, none⟩ = some (.int .i64 v') := Hg.out.cell 0
        have g1 : z1.cell? ⟨w.heap.size + 1, 1, none⟩ = some (.int .i64 d') := Hg.out.cell 1
        have g2 : z1.cell? ⟨w.heap.size + 1, 2, none⟩ = some (.slice a' N' cap') := Hg.out.cell 2
        replace Hb := Lib.hid (bnext Hb.out hbn); clear hbn
        go_wp2
        refine bodyPost_ret (v := .bool true) (by simp [results, Tryz.results3, go_sem]) rfl ⟨rfl, ?_⟩
        (repeat first | exact Hb.out | (refine Below.setCell ?_ (by have := Hb.out.size; first | (dsimp only; omega) | (show _ ≤ _; omega) | (simp <;> omega)) _) | (refine Below.alloc ?_ (by have := Hb.out.size; simp <;> omega) _) | refine Below.drew ?_)
      · by_cases hc : chk v d N = 0
        · obtain ⟨c1, c2, c3, c4, c5, c6⟩ := chk_ok hc
          obtain ⟨V, hV⟩ : ∃ V : Nat, (V : Int) = v := ⟨v.toNat, by omega⟩
          obtain ⟨D, hD⟩ : ∃ D : Nat, (D : Int) = d := ⟨d.toNat, by omega⟩
          have hV8 : V ≤ 8 := by omega
          have hV1 : 1 ≤ V := by omega
          have hD5 : D ≤ 5 := by omega
          have hcnt : cnt V D = N := by rw [c5]; congr 1 <;> omega
          have Hck := Lib.hid hc; have HVv := Lib.hid hV; have HDd := Lib.hid hD; have Hcnt := Lib.hid hcnt; have H8 := Lib.hid hV8; have H1 := Lib.hid hV1; have H5 := Lib.hid hD5; have H512 := Lib.hid c6
          by_cases hij : 0 ≤ i ∧ i ≤ v ∧ 0 ≤ j ∧ j ≤ v ∧ i ≠ j
          · obtain ⟨I, hI⟩ : ∃ I : Nat, (I : Int) = i := ⟨i.toNat, by omega⟩
            obtain ⟨J, hJ⟩ : ∃ J : Nat, (J : Int) = j := ⟨j.toNat, by omega⟩
            have hIV : I ≤ V := by omega
            have hJV : J ≤ V := by omega
            have hIJ : I ≠ J := by omega
            have HIi := Lib.hid hI; have HJj := Lib.hid hJ; have HIV := Lib.hid hIV; have HJV := Lib.hid hJV; have HIJ := Lib.hid hIJ
            clear hij hI hJ hIV hJV hIJ hc hV hD hV8 hV1 hD5 hcnt c1 c2 c3 c4 c5 c6
            have Hsm : Hid (∀ c ∈ cs, Sm 192 c) := by
              intro c hc
              rw [← Hcs.out, List.mem_map] at hc
              obtain ⟨x, hx, rfl⟩ := hc
              exact (Hfair.out.fit x hx).2
            have Hsm' : Hid (∀ c ∈ cs', Sm 192 c) := by
              intro c hc
              rw [← Hcs'.out, List.mem_map] at hc
              obtain ⟨x, hx, rfl⟩ := hc
              exact (Hfair'.out.fit x hx).2
            go_wp2_with fail
            refine (split_raw V D v d HVv.out HDd.out a cap N raws HN.out cs Hcs.out I J i j HIi.out HJj.out 192 _ Hck.out HIV.out HJV.out HIJ.out Hfair.out.fit (by decide) HA.out HT.out).mono ?_
            rintro e w3 ⟨r, s, rfl, hat, hat2, hbn⟩
            clear f0 f1 f2
            clear g0 g1 g2
            replace Hf := Lib.hid (Hf.out.below hbn)
            replace Hg := Lib.hid (Hg.out.below hbn)
            replace HA := Lib.hid (HA.out.below hbn)
            replace HG := Lib.hid (HG.out.below hbn)
            replace HT := Lib.hid (HT.out.below hbn)
            have f0 : w3.cell? ⟨w.heap.size, 0, none⟩ = some (.int .i64 v) := Hf.out.cell 0
            have f1 : w3.cell? ⟨w.heap.size, 1, none⟩ = some (.int .i64 d) := Hf.out.cell 1
            have f2 : w3.cell? ⟨w.heap.size, 2, none⟩ = some (.slice a N cap) := Hf.out.cell 2
            have g0 : w3.cell? ⟨w.heap.size + 1, 0, none⟩ = some (.int .i64 v') := Hg.out.cell 0
            have g1 : w3.cell? ⟨w.heap.size + 1, 1, none⟩ = some (.int .i64 d') := Hg.out.cell 1
            have g2 : w3.cell? ⟨w.heap.size + 1, 2, none⟩ = some (.slice a' N' cap') := Hg.out.cell 2
            replace Hb := Lib.hid (bnext Hb.out hbn); clear hbn
            have HP : Hid (At w3 (some ⟨r, 0, none⟩) (dC (halfL V D I J cs))) := hat
            have HQ : Hid (At w3 (some ⟨s, 0, none⟩) (dC (halfL V D J I cs))) := hat2
            clear hat hat2
            have lz_f_W3 : w.heap.size < w3.heap.size := Hf.out.lt
            have lz_g_W3 : w.heap.size + 1 < w3.heap.size := Hg.out.lt
            go_wp2_with fail
            first | refine wp_world (fun W3 => Blk W3 (w3.heap.size) 24 [.int .i64 v, .int .i64 d, .slice (some ⟨r, 0, none⟩) N N] ∧ Blk W3 (w3.heap.size + 1) 24 [.int .i64 v, .int .i64 d, .slice (some ⟨s, 0, none⟩) N N] ∧ Below w3.heap.size w3 W3) ?hR ?_ | refine calls_world (fun W3 => Blk W3 (w3.heap.size) 24 [.int .i64 v, .int .i64 d, .slice (some ⟨r, 0, none⟩) N N] ∧ Blk W3 (w3.heap.size + 1) 24 [.int .i64 v, .int .i64 d, .slice (some ⟨s, 0, none⟩) N N] ∧ Below w3.heap.size w3 W3) ?hR ?_
            case hR => exact ⟨((Blk.newAt w3 _ _ (b := w3.heap.size) rfl).alloc _), (Blk.newAt (w3.alloc _) _ _ (b := w3.heap.size + 1) (by simp)), (((Below.refl _ _).alloc (Nat.le_refl _) _).alloc (by simp <;> omega) _)⟩
            rintro W3 ⟨qp, qq, hbn⟩
            have Hp := Lib.hid qp; clear qp
            have Hq := Lib.hid qq; clear qq
            clear f0 f1 f2
            replace Hf := Lib.hid (Hf.out.below hbn)
            have f0 : W3.cell? ⟨w.heap.size, 0, none⟩ = some (.int .i64 v) := Hf.out.cell 0
            have f1 : W3.cell? ⟨w.heap.size, 1, none⟩ = some (.int .i64 d) := Hf.out.cell 1
            have f2 : W3.cell? ⟨w.heap.size, 2, none⟩ = some (.slice a N cap) := Hf.out.cell 2
            clear g0 g1 g2
            replace Hg := Lib.hid (Hg.out.below hbn)
            have g0 : W3.cell? ⟨w.heap.size + 1, 0, none⟩ = some (.int .i64 v') := Hg.out.cell 0
            have g1 : W3.cell? ⟨w.heap.size + 1, 1, none⟩ = some (.int .i64 d') := Hg.out.cell 1
            have g2 : W3.cell? ⟨w.heap.size + 1, 2, none⟩ = some (.slice a' N' cap') := Hg.out.cell 2
            replace HA := Lib.hid (HA.out.below hbn)
            replace HG := Lib.hid (HG.out.below hbn)
            replace HT := Lib.hid (HT.out.below hbn)
            replace HP := Lib.hid (HP.out.below hbn)
            replace HQ := Lib.hid (HQ.out.below hbn)
            have p0 : W3.cell? ⟨w3.heap.size, 0, none⟩ = some (.int .i64 v) := Hp.out.cell 0
            have p1 : W3.cell? ⟨w3.heap.size, 1, none⟩ = some (.int .i64 d) := Hp.out.cell 1
            have p2 : W3.cell? ⟨w3.heap.size, 2, none⟩ = some (.slice (some ⟨r, 0, none⟩) N N) := Hp.out.cell 2
            have q0 : W3.cell? ⟨w3.heap.size + 1, 0, none⟩ = some (.int .i64 v) := Hq.out.cell 0
            have q1 : W3.cell? ⟨w3.heap.size + 1, 1, none⟩ = some (.int .i64 d) := Hq.out.cell 1
            have q2 : W3.cell? ⟨w3.heap.size + 1, 2, none⟩ = some (.slice (some ⟨s, 0, none⟩) N N) := Hq.out.cell 2
            replace Hb := Lib.hid (bnext Hb.out hbn); clear hbn
            by_cases hk : cnt V (D + 1) ≤ 512
            · obtain ⟨M, hM⟩ : ∃ M, cnt V (D + 1) = M := ⟨_, rfl⟩
              obtain ⟨d1, hd1⟩ : ∃ d1 : Int, ((D + 1 : Nat) : Int) = d1 := ⟨_, rfl⟩
              rw [hM] at hk
              have HM := Lib.hid hM; have Hk := Lib.hid hk; have Hd1 := Lib.hid hd1
              have Hc1 := Lib.hid (chk_up Hck.out HVv.out HDd.out hd1 hM hk (by have := H5.out; omega))
              have hD20 : Hid (D + 1 ≤ 20 ∧ D < 20 ∧ D ≤ 20) := by have := H5.out; exact ⟨by omega, by omega, by omega⟩
              have hcD : Hid (cnt V D ≤ 512) := by show _ ≤ _; rw [Hcnt.out]; exact H512.out
              have hcM : Hid (cnt V (D + 1) ≤ 512) := by show _ ≤ _; rw [hM]; exact hk
              clear hM hk hd1
              have Hp1 : Hid (∀ c ∈ halfL V D I J cs, Sm 10986 c) := halfL_sm Hsm.out hD20.out.2.2 hcD.out HIJ.out
              have Hp2 : Hid (∀ c ∈ halfL V D J I cs, Sm 10986 c) := halfL_sm Hsm.out hD20.out.2.2 hcD.out (Ne.symm HIJ.out)
              have Hp3 : Hid (∀ c ∈ liftL V D cs, Sm 4800 c) := liftL_sm Hsm.out H8.out hcD.out
              have Hl1 : Hid ((halfL V D I J cs).length = N) := by show _ = _; rw [halfL_len]; exact Hcnt.out
              have Hl2 : Hid ((halfL V D J I cs).length = N) := by show _ = _; rw [halfL_len]; exact Hcnt.out
              have Hl3 : Hid ((liftL V D cs).length = M) := by show _ = _; rw [liftL_len]; exact HM.out
              have Hl4 : Hid ((halfL V (D + 1) I J (liftL V D cs)).length = M) := by show _ = _; rw [halfL_len]; exact HM.out
              have Hl5 : Hid ((halfL V (D + 1) J I (liftL V D cs)).length = M) := by show _ = _; rw [halfL_len]; exact HM.out
              have Hq1 := Lib.hid (order_split V D I J cs HIJ.out HIV.out HJV.out)
              have Hq2 := Lib.hid (order_split V D J I cs (Ne.symm HIJ.out) HJV.out HIV.out)
              go_wp2_with fail
              refine (lift_raw V D v d d1 HVv.out HDd.out Hd1.out a cap N M raws HN.out HM.out cs Hcs.out 192 _ Hck.out hD20.out.2.1 Hk.out Hfair.out.fit (by decide) HA.out HT.out).mono ?_
              rintro e w4 ⟨u, rfl, hat, hbn⟩
              clear f0 f1 f2
              clear g0 g1 g2
              clear p0 p1 p2
              clear q0 q1 q2
              replace Hf := Lib.hid (Hf.out.below hbn)
              replace Hg := Lib.hid (Hg.out.below hbn)
              replace HA := Lib.hid (HA.out.below hbn)
              replace HG := Lib.hid (HG.out.below hbn)
              replace HT := Lib.hid (HT.out.below hbn)
              replace HP := Lib.hid (HP.out.below hbn)
              replace HQ := Lib.hid (HQ.out.below hbn)
              replace Hp := Lib.hid (Hp.out.below hbn)
              replace Hq := Lib.hid (Hq.out.below hbn)
              have f0 : w4.cell? ⟨w.heap.size, 0, none⟩ = some (.int .i64 v) := Hf.out.cell 0
              have f1 : w4.cell? ⟨w.heap.size, 1, none⟩ = some (.int .i64 d) := Hf.out.cell 1
              have f2 : w4.cell? ⟨w.heap.size, 2, none⟩ = some (.slice a N cap) := Hf.out.cell 2
              have g0 : w4.cell? ⟨w.heap.size + 1, 0, none⟩ = some (.int .i64 v') := Hg.out.cell 0
              have g1 : w4.cell? ⟨w.heap.size + 1, 1, none⟩ = some (.int .i64 d') := Hg.out.cell 1
              have g2 : w4.cell? ⟨w.heap.size + 1, 2, none⟩ = some (.slice a' N' cap') := Hg.out.cell 2
              have p0 : w4.cell? ⟨w3.heap.size, 0, none⟩ = some (.int .i64 v) := Hp.out.cell 0
              have p1 : w4.cell? ⟨w3.heap.size, 1, none⟩ = some (.int .i64 d) := Hp.out.cell 1
              have p2 : w4.cell? ⟨w3.heap.size, 2, none⟩ = some (.slice (some ⟨r, 0, none⟩) N N) := Hp.out.cell 2
              have q0 : w4.cell? ⟨w3.heap.size + 1, 0, none⟩ = some (.int .i64 v) := Hq.out.cell 0
              have q1 : w4.cell? ⟨w3.heap.size + 1, 1, none⟩ = some (.int .i64 d) := Hq.out.cell 1
              have q2 : w4.cell? ⟨w3.heap.size + 1, 2, none⟩ = some (.slice (some ⟨s, 0, none⟩) N N) := Hq.out.cell 2
              replace Hb := Lib.hid (bnext Hb.out hbn); clear hbn
              have HU : Hid (At w4 (some ⟨u, 0, none⟩) (dC (liftL V D cs))) := hat
              clear hat
              have lz_f_W4 : w.heap.size < w4.heap.size := Hf.out.lt
              have lz_g_W4 : w.heap.size + 1 < w4.heap.size := Hg.out.lt
              have lz_p_W4 : w3.heap.size < w4.heap.size := Hp.out.lt
              have lz_q_W4 : w3.heap.size + 1 < w4.heap.size := Hq.out.lt
              go_wp2_with fail
              first | refine wp_world (fun W4 => Blk W4 (w4.heap.size) 24 [.int .i64 v, .int .i64 d1, .slice (some ⟨u, 0, none⟩) M M] ∧ Below w4.heap.size w4 W4) ?hR ?_ | refine calls_world (fun W4 => Blk W4 (w4.heap.size) 24 [.int .i64 v, .int .i64 d1, .slice (some ⟨u, 0, none⟩) M M] ∧ Below w4.heap.size w4 W4) ?hR ?_
              case hR => exact ⟨(Blk.newAt w4 _ _ (b := w4.heap.size) rfl), ((Below.refl _ _).alloc (Nat.le_refl _) _)⟩
              rintro W4 ⟨ql, hbn⟩
              have Hl := Lib.hid ql; clear ql
              clear f0 f1 f2
              replace Hf := Lib.hid (Hf.out.below hbn)
              have f0 : W4.cell? ⟨w.heap.size, 0, none⟩ = some (.int .i64 v) := Hf.out.cell 0
              have f1 : W4.cell? ⟨w.heap.size, 1, none⟩ = some (.int .i64 d) := Hf.out.cell 1
              have f2 : W4.cell? ⟨w.heap.size, 2, none⟩ = some (.slice a N cap) := Hf.out.cell 2
              clear g0 g1 g2
              replace Hg := Lib.hid (Hg.out.below hbn)
              have g0 : W4.cell? ⟨w.heap.size + 1, 0, none⟩ = some (.int .i64 v') := Hg.out.cell 0
              have g1 : W4.cell? ⟨w.heap.size + 1, 1, none⟩ = some (.int .i64 d') := Hg.out.cell 1
              have g2 : W4.cell? ⟨w.heap.size + 1, 2, none⟩ = some (.slice a' N' cap') := Hg.out.cell 2
              replace HA := Lib.hid (HA.out.below hbn)
              replace HG := Lib.hid (HG.out.below hbn)
              replace HT := Lib.hid (HT.out.below hbn)
              replace HP := Lib.hid (HP.out.below hbn)
              replace HQ := Lib.hid (HQ.out.below hbn)
              clear p0 p1 p2
              replace Hp := Lib.hid (Hp.out.below hbn)
              have p0 : W4.cell? ⟨w3.heap.size, 0, none⟩ = some (.int .i64 v) := Hp.out.cell 0
              have p1 : W4.cell? ⟨w3.heap.size, 1, none⟩ = some (.int .i64 d) := Hp.out.cell 1
              have p2 : W4.cell? ⟨w3.heap.size, 2, none⟩ = some (.slice (some ⟨r, 0, none⟩) N N) := Hp.out.cell 2
              clear q0 q1 q2
              replace Hq := Lib.hid (Hq.out.below hbn)
              have q0 : W4.cell? ⟨w3.heap.size + 1, 0, none⟩ = some (.int .i64 v) := Hq.out.cell 0
              have q1 : W4.cell? ⟨w3.heap.size + 1, 1, none⟩ = some (.int .i64 d) := Hq.out.cell 1
              have q2 : W4.cell? ⟨w3.heap.size + 1, 2, none⟩ = some (.slice (some ⟨s, 0, none⟩) N N) := Hq.out.cell 2
              replace HU := Lib.hid (HU.out.below hbn)
              have l0 : W4.cell? ⟨w4.heap.size, 0, none⟩ = some (.int .i64 v) := Hl.out.cell 0
              have l1 : W4.cell? ⟨w4.heap.size, 1, none⟩ = some (.int .i64 d1) := Hl.out.cell 1
              have l2 : W4.cell? ⟨w4.heap.size, 2, none⟩ = some (.slice (some ⟨u, 0, none⟩) M M) := Hl.out.cell 2
              replace Hb := Lib.hid (bnext Hb.out hbn); clear hbn
              go_wp2_with fail
              refine (split_dy V (D + 1) v d1 HVv.out Hd1.out (some ⟨u, 0, none⟩) M M (liftL V D cs) Hl3.out I J i j HIi.out HJj.out 4800 _ Hc1.out HIV.out HJV.out HIJ.out Hp3.out (by decide) HU.out HT.out).mono ?_
              rintro e w5 ⟨r1, s1, rfl, hat, hat2, hbn⟩
              clear f0 f1 f2
              clear g0 g1 g2
              clear p0 p1 p2
              clear q0 q1 q2
              clear l0 l1 l2
              replace Hf := Lib.hid (Hf.out.below hbn)
              replace Hg := Lib.hid (Hg.out.below hbn)
              replace HA := Lib.hid (HA.out.below hbn)
              replace HG := Lib.hid (HG.out.below hbn)
              replace HT := Lib.hid (HT.out.below hbn)
              replace HP := Lib.hid (HP.out.below hbn)
              replace HQ := Lib.hid (HQ.out.below hbn)
              replace Hp := Lib.hid (Hp.out.below hbn)
              replace Hq := Lib.hid (Hq.out.below hbn)
              replace HU := Lib.hid (HU.out.below hbn)
              replace Hl := Lib.hid (Hl.out.below hbn)
              have f0 : w5.cell? ⟨w.heap.size, 0, none⟩ = some (.int .i64 v) := Hf.out.cell 0
              have f1 : w5.cell? ⟨w.heap.size, 1, none⟩ = some (.int .i64 d) := Hf.out.cell 1
              have f2 : w5.cell? ⟨w.heap.size, 2, none⟩ = some (.slice a N cap) := Hf.out.cell 2
              have g0 : w5.cell? ⟨w.heap.size + 1, 0, none⟩ = some (.int .i64 v') := Hg.out.cell 0
              have g1 : w5.cell? ⟨w.heap.size + 1, 1, none⟩ = some (.int .i64 d') := Hg.out.cell 1
              have g2 : w5.cell? ⟨w.heap.size + 1, 2, none⟩ = some (.slice a' N' cap') := Hg.out.cell 2
              have p0 : w5.cell? ⟨w3.heap.size, 0, none⟩ = some (.int .i64 v) := Hp.out.cell 0
              have p1 : w5.cell? ⟨w3.heap.size, 1, none⟩ = some (.int .i64 d) := Hp.out.cell 1
              have p2 : w5.cell? ⟨w3.heap.size, 2, none⟩ = some (.slice (some ⟨r, 0, none⟩) N N) := Hp.out.cell 2
              have q0 : w5.cell? ⟨w3.heap.size + 1, 0, none⟩ = some (.int .i64 v) := Hq.out.cell 0
              have q1 : w5.cell? ⟨w3.heap.size + 1, 1, none⟩ = some (.int .i64 d) := Hq.out.cell 1
              have q2 : w5.cell? ⟨w3.heap.size + 1, 2, none⟩ = some (.slice (some ⟨s, 0, none⟩) N N) := Hq.out.cell 2
              have l0 : w5.cell? ⟨w4.heap.size, 0, none⟩ = some (.int .i64 v) := Hl.out.cell 0
              have l1 : w5.cell? ⟨w4.heap.size, 1, none⟩ = some (.int .i64 d1) := Hl.out.cell 1
              have l2 : w5.cell? ⟨w4.heap.size, 2, none⟩ = some (.slice (some ⟨u, 0, none⟩) M M) := Hl.out.cell 2
              replace Hb := Lib.hid (bnext Hb.out hbn); clear hbn
              have HX : Hid (At w5 (some ⟨r1, 0, none⟩) (dC (halfL V (D + 1) I J (liftL V D cs)))) := hat
              have HY : Hid (At w5 (some ⟨s1, 0, none⟩) (dC (halfL V (D + 1) J I (liftL V D cs)))) := hat2
              clear hat hat2
              have lz_f_W5 : w.heap.size < w5.heap.size := Hf.out.lt
              have lz_g_W5 : w.heap.size + 1 < w5.heap.size := Hg.out.lt
              have lz_p_W5 : w3.heap.size < w5.heap.size := Hp.out.lt
              have lz_q_W5 : w3.heap.size + 1 < w5.heap.size := Hq.out.lt
              have lz_l_W5 : w4.heap.size < w5.heap.size := Hl.out.lt
              go_wp2_with fail
              first | refine wp_world (fun W5 => Blk W5 (w5.heap.size) 24 [.int .i64 v, .int .i64 d1, .slice (some ⟨r1, 0, none⟩) M M] ∧ Blk W5 (w5.heap.size + 1) 24 [.int .i64 v, .int .i64 d1, .slice (some ⟨s1, 0, none⟩) M M] ∧ Below w5.heap.size w5 W5) ?hR ?_ | refine calls_world (fun W5 => Blk W5 (w5.heap.size) 24 [.int .i64 v, .int .i64 d1, .slice (some ⟨r1, 0, none⟩) M M] ∧ Blk W5 (w5.heap.size + 1) 24 [.int .i64 v, .int .i64 d1, .slice (some ⟨s1, 0, none⟩) M M] ∧ Below w5.heap.size w5 W5) ?hR ?_
              case hR => exact ⟨((Blk.newAt w5 _ _ (b := w5.heap.size) rfl).alloc _), (Blk.newAt (w5.alloc _) _ _ (b := w5.heap.size + 1) (by simp)), (((Below.refl _ _).alloc (Nat.le_refl _) _).alloc (by simp <;> omega) _)⟩
              rintro W5 ⟨qx, qy, hbn⟩
              have Hx := Lib.hid qx; clear qx
              have Hy := Lib.hid qy; clear qy
              clear f0 f1 f2
              replace Hf := Lib.hid (Hf.out.below hbn)
              have f0 : W5.cell? ⟨w.heap.size, 0, none⟩ = some (.int .i64 v) := Hf.out.cell 0
              have f1 : W5.cell? ⟨w.heap.size, 1, none⟩ = some (.int .i64 d) := Hf.out.cell 1
              have f2 : W5.cell? ⟨w.heap.size, 2, none⟩ = some (.slice a N cap) := Hf.out.cell 2
              clear g0 g1 g2
              replace Hg := Lib.hid (Hg.out.below hbn)
              have g0 : W5.cell? ⟨w.heap.size + 1, 0, none⟩ = some (.int .i64 v') := Hg.out.cell 0
              have g1 : W5.cell? ⟨w.heap.size + 1, 1, none⟩ = some (.int .i64 d') := Hg.out.cell 1
              have g2 : W5.cell? ⟨w.heap.size + 1, 2, none⟩ = some (.slice a' N' cap') := Hg.out.cell 2
              replace HA := Lib.hid (HA.out.below hbn)
              replace HG := Lib.hid (HG.out.below hbn)
              replace HT := Lib.hid (HT.out.below hbn)
              replace HP := Lib.hid (HP.out.below hbn)
              replace HQ := Lib.hid (HQ.out.below hbn)
              clear p0 p1 p2
              replace Hp := Lib.hid (Hp.out.below hbn)
              have p0 : W5.cell? ⟨w3.heap.size, 0, none⟩ = some (.int .i64 v) := Hp.out.cell 0
              have p1 : W5.cell? ⟨w3.heap.size, 1, none⟩ = some (.int .i64 d) := Hp.out.cell 1
              have p2 : W5.cell? ⟨w3.heap.size, 2, none⟩ = some (.slice (some ⟨r, 0, none⟩) N N) := Hp.out.cell 2
              clear q0 q1 q2
              replace Hq := Lib.hid (Hq.out.below hbn)
              have q0 : W5.cell? ⟨w3.heap.size + 1, 0, none⟩ = some (.int .i64 v) := Hq.out.cell 0
              have q1 : W5.cell? ⟨w3.heap.size + 1, 1, none⟩ = some (.int .i64 d) := Hq.out.cell 1
              have q2 : W5.cell? ⟨w3.heap.size + 1, 2, none⟩ = some (.slice (some ⟨s, 0, none⟩) N N) := Hq.out.cell 2
              replace HU := Lib.hid (HU.out.below hbn)
              clear l0 l1 l2
              replace Hl := Lib.hid (Hl.out.below hbn)
              have l0 : W5.cell? ⟨w4.heap.size, 0, none⟩ = some (.int .i64 v) := Hl.out.cell 0
              have l1 : W5.cell? ⟨w4.heap.size, 1, none⟩ = some (.int .i64 d1) := Hl.out.cell 1
              have l2 : W5.cell? ⟨w4.heap.size, 2, none⟩ = some (.slice (some ⟨u, 0, none⟩) M M) := Hl.out.cell 2
              replace HX := Lib.hid (HX.out.below hbn)
              replace HY := Lib.hid (HY.out.below hbn)
              have x0 : W5.cell? ⟨w5.heap.size, 0, none⟩ = some (.int .i64 v) := Hx.out.cell 0
              have x1 : W5.cell? ⟨w5.heap.size, 1, none⟩ = some (.int .i64 d1) := Hx.out.cell 1
              have x2 : W5.cell? ⟨w5.heap.size, 2, none⟩ = some (.slice (some ⟨r1, 0, none⟩) M M) := Hx.out.cell 2
              have y0 : W5.cell? ⟨w5.heap.size + 1, 0, none⟩ = some (.int .i64 v) := Hy.out.cell 0
              have y1 : W5.cell? ⟨w5.heap.size + 1, 1, none⟩ = some (.int .i64 d1) := Hy.out.cell 1
              have y2 : W5.cell? ⟨w5.heap.size + 1, 2, none⟩ = some (.slice (some ⟨s1, 0, none⟩) M M) := Hy.out.cell 2
              replace Hb := Lib.hid (bnext Hb.out hbn); clear hbn
              go_wp2_with fail
              refine (lift_dy V D v d d1 HVv.out HDd.out Hd1.out (some ⟨r, 0, none⟩) N N M (halfL V D I J cs) Hl1.out HM.out 10986 _ Hck.out hD20.out.2.1 Hk.out Hp1.out (by decide) HP.out HT.out).mono ?_
              rintro e w6 ⟨u1, rfl, hat, hbn⟩
              clear f0 f1 f2
              clear g0 g1 g2
              clear p0 p1 p2
              clear q0 q1 q2
              clear l0 l1 l2
              clear x0 x1 x2
              clear y0 y1 y2
              replace Hf := Lib.hid (Hf.out.below hbn)
              replace Hg := Lib.hid (Hg.out.below hbn)
              replace HA := Lib.hid (HA.out.below hbn)
              replace HG := Lib.hid (HG.out.below hbn)
              replace HT := Lib.hid (HT.out.below hbn)
              replace HP := Lib.hid (HP.out.below hbn)
              replace HQ := Lib.hid (HQ.out.below hbn)
              replace Hp := Lib.hid (Hp.out.below hbn)
              replace Hq := Lib.hid (Hq.out.below hbn)
              replace HU := Lib.hid (HU.out.below hbn)
              replace Hl := Lib.hid (Hl.out.below hbn)
              replace HX := Lib.hid (HX.out.below hbn)
              replace HY := Lib.hid (HY.out.below hbn)
              replace Hx := Lib.hid (Hx.out.below hbn)
              replace Hy := Lib.hid (Hy.out.below hbn)
              have f0 : w6.cell? ⟨w.heap.size, 0, none⟩ = some (.int .i64 v) := Hf.out.cell 0
              have f1 : w6.cell? ⟨w.heap.size, 1, none⟩ = some (.int .i64 d) := Hf.out.cell 1
              have f2 : w6.cell? ⟨w.heap.size, 2, none⟩ = some (.slice a N cap) := Hf.out.cell 2
              have g0 : w6.cell? ⟨w.heap.size + 1, 0, none⟩ = some (.int .i64 v') := Hg.out.cell 0
              have g1 : w6.cell? ⟨w.heap.size + 1, 1, none⟩ = some (.int .i64 d') := Hg.out.cell 1
              have g2 : w6.cell? ⟨w.heap.size + 1, 2, none⟩ = some (.slice a' N' cap') := Hg.out.cell 2
              have p0 : w6.cell? ⟨w3.heap.size, 0, none⟩ = some (.int .i64 v) := Hp.out.cell 0
              have p1 : w6.cell? ⟨w3.heap.size, 1, none⟩ = some (.int .i64 d) := Hp.out.cell 1
              have p2 : w6.cell? ⟨w3.heap.size, 2, none⟩ = some (.slice (some ⟨r, 0, none⟩) N N) := Hp.out.cell 2
              have q0 : w6.cell? ⟨w3.heap.size + 1, 0, none⟩ = some (.int .i64 v) := Hq.out.cell 0
              have q1 : w6.cell? ⟨w3.heap.size + 1, 1, none⟩ = some (.int .i64 d) := Hq.out.cell 1
              have q2 : w6.cell? ⟨w3.heap.size + 1, 2, none⟩ = some (.slice (some ⟨s, 0, none⟩) N N) := Hq.out.cell 2
              have l0 : w6.cell? ⟨w4.heap.size, 0, none⟩ = some (.int .i64 v) := Hl.out.cell 0
              have l1 : w6.cell? ⟨w4.heap.size, 1, none⟩ = some (.int .i64 d1) := Hl.out.cell 1
              have l2 : w6.cell? ⟨w4.heap.size, 2, none⟩ = some (.slice (some ⟨u, 0, none⟩) M M) := Hl.out.cell 2
              have x0 : w6.cell? ⟨w5.heap.size, 0, none⟩ = some (.int .i64 v) := Hx.out.cell 0
              have x1 : w6.cell? ⟨w5.heap.size, 1, none⟩ = some (.int .i64 d1) := Hx.out.cell 1
              have x2 : w6.cell? ⟨w5.heap.size, 2, none⟩ = some (.slice (some ⟨r1, 0, none⟩) M M) := Hx.out.cell 2
              have y0 : w6.cell? ⟨w5.heap.size + 1, 0, none⟩ = some (.int .i64 v) := Hy.out.cell 0
              have y1 : w6.cell? ⟨w5.heap.size + 1, 1, none⟩ = some (.int .i64 d1) := Hy.out.cell 1
              have y2 : w6.cell? ⟨w5.heap.size + 1, 2, none⟩ = some (.slice (some ⟨s1, 0, none⟩) M M) := Hy.out.cell 2
              replace Hb := Lib.hid (bnext Hb.out hbn); clear hbn
              have HC : Hid (At w6 (some ⟨u1, 0, none⟩) (dC (liftL V D (halfL V D I J cs)))) := hat
              clear hat
              have lz_f_W6 : w.heap.size < w6.heap.size := Hf.out.lt
              have lz_g_W6 : w.heap.size + 1 < w6.heap.size := Hg.out.lt
              have lz_p_W6 : w3.heap.size < w6.heap.size := Hp.out.lt
              have lz_q_W6 : w3.heap.size + 1 < w6.heap.size := Hq.out.lt
              have lz_l_W6 : w4.heap.size < w6.heap.size := Hl.out.lt
              have lz_x_W6 : w5.heap.size < w6.heap.size := Hx.out.lt
              have lz_y_W6 : w5.heap.size + 1 < w6.heap.size := Hy.out.lt
              go_wp2_with fail
              first | refine wp_world (fun W6 => Blk W6 (w6.heap.size) 24 [.int .i64 v, .int .i64 d1, .slice (some ⟨u1, 0, none⟩) M M] ∧ Below w6.heap.size w6 W6) ?hR ?_ | refine calls_world (fun W6 => Blk W6 (w6.heap.size) 24 [.int .i64 v, .int .i64 d1, .slice (some ⟨u1, 0, none⟩) M M] ∧ Below w6.heap.size w6 W6) ?hR ?_
              case hR => exact ⟨(Blk.newAt w6 _ _ (b := w6.heap.size) rfl), ((Below.refl _ _).alloc (Nat.le_refl _) _)⟩
              rintro W6 ⟨qc, hbn⟩
              have Hc := Lib.hid qc; clear qc
              clear f0 f1 f2
              replace Hf := Lib.hid (Hf.out.below hbn)
              have f0 : W6.cell? ⟨w.heap.size, 0, none⟩ = some (.int .i64 v) := Hf.out.cell 0
              have f1 : W6.cell? ⟨w.heap.size, 1, none⟩ = some (.int .i64 d) := Hf.out.cell 1
              have f2 : W6.cell? ⟨w.heap.size, 2, none⟩ = some (.slice a N cap) := Hf.out.cell 2
              clear g0 g1 g2
              replace Hg := Lib.hid (Hg.out.below hbn)
              have g0 : W6.cell? ⟨w.heap.size + 1, 0, none⟩ = some (.int .i64 v') := Hg.out.cell 0
              have g1 : W6.cell? ⟨w.heap.size + 1, 1, none⟩ = some (.int .i64 d') := Hg.out.cell 1
              have g2 : W6.cell? ⟨w.heap.size + 1, 2, none⟩ = some (.slice a' N' cap') := Hg.out.cell 2
              replace HA := Lib.hid (HA.out.below hbn)
              replace HG := Lib.hid (HG.out.below hbn)
              replace HT := Lib.hid (HT.out.below hbn)
              replace HP := Lib.hid (HP.out.below hbn)
              replace HQ := Lib.hid (HQ.out.below hbn)
              clear p0 p1 p2
              replace Hp := Lib.hid (Hp.out.below hbn)
              have p0 : W6.cell? ⟨w3.heap.size, 0, none⟩ = some (.int .i64 v) := Hp.out.cell 0
              have p1 : W6.cell? ⟨w3.heap.size, 1, none⟩ = some (.int .i64 d) := Hp.out.cell 1
              have p2 : W6.cell? ⟨w3.heap.size, 2, none⟩ = some (.slice (some ⟨r, 0, none⟩) N N) := Hp.out.cell 2
              clear q0 q1 q2
              replace Hq := Lib.hid (Hq.out.below hbn)
              have q0 : W6.cell? ⟨w3.heap.size + 1, 0, none⟩ = some (.int .i64 v) := Hq.out.cell 0
              have q1 : W6.cell? ⟨w3.heap.size + 1, 1, none⟩ = some (.int .i64 d) := Hq.out.cell 1
              have q2 : W6.cell? ⟨w3.heap.size + 1, 2, none⟩ = some (.slice (some ⟨s, 0, none⟩) N N) := Hq.out.cell 2
              replace HU := Lib.hid (HU.out.below hbn)
              clear l0 l1 l2
              replace Hl := Lib.hid (Hl.out.below hbn)
              have l0 : W6.cell? ⟨w4.heap.size, 0, none⟩ = some (.int .i64 v) := Hl.out.cell 0
              have l1 : W6.cell? ⟨w4.heap.size, 1, none⟩ = some (.int .i64 d1) := Hl.out.cell 1
              have l2 : W6.cell? ⟨w4.heap.size, 2, none⟩ = some (.slice (some ⟨u, 0, none⟩) M M) := Hl.out.cell 2
              replace HX := Lib.hid (HX.out.below hbn)
              replace HY := Lib.hid (HY.out.below hbn)
              clear x0 x1 x2
              replace Hx := Lib.hid (Hx.out.below hbn)
              have x0 : W6.cell? ⟨w5.heap.size, 0, none⟩ = some (.int .i64 v) := Hx.out.cell 0
              have x1 : W6.cell? ⟨w5.heap.size, 1, none⟩ = some (.int .i64 d1) := Hx.out.cell 1
              have x2 : W6.cell? ⟨w5.heap.size, 2, none⟩ = some (.slice (some ⟨r1, 0, none⟩) M M) := Hx.out.cell 2
              clear y0 y1 y2
              replace Hy := Lib.hid (Hy.out.below hbn)
              have y0 : W6.cell? ⟨w5.heap.size + 1, 0, none⟩ = some (.int .i64 v) := Hy.out.cell 0
              have y1 : W6.cell? ⟨w5.heap.size + 1, 1, none⟩ = some (.int .i64 d1) := Hy.out.cell 1
              have y2 : W6.cell? ⟨w5.heap.size + 1, 2, none⟩ = some (.slice (some ⟨s1, 0, none⟩) M M) := Hy.out.cell 2
              replace HC := Lib.hid (HC.out.below hbn)
              have c0 : W6.cell? ⟨w6.heap.size, 0, none⟩ = some (.int .i64 v) := Hc.out.cell 0
              have c1 : W6.cell? ⟨w6.heap.size, 1, none⟩ = some (.int .i64 d1) := Hc.out.cell 1
              have c2 : W6.cell? ⟨w6.heap.size, 2, none⟩ = some (.slice (some ⟨u1, 0, none⟩) M M) := Hc.out.cell 2
              replace Hb := Lib.hid (bnext Hb.out hbn); clear hbn
              go_wp2_with fail
              refine (lift_dy V D v d d1 HVv.out HDd.out Hd1.out (some ⟨s, 0, none⟩) N N M (halfL V D J I cs) Hl2.out HM.out 10986 _ Hck.out hD20.out.2.1 Hk.out Hp2.out (by decide) HQ.out HT.out).mono ?_
              rintro e w7 ⟨u2, rfl, hat, hbn⟩
              clear f0 f1 f2
              clear g0 g1 g2
              clear p0 p1 p2
              clear q0 q1 q2
              clear l0 l1 l2
              clear x0 x1 x2
              clear y0 y1 y2
              clear c0 c1 c2
              replace Hf := Lib.hid (Hf.out.below hbn)
              replace Hg := Lib.hid (Hg.out.below hbn)
              replace HA := Lib.hid (HA.out.below hbn)
              replace HG := Lib.hid (HG.out.below hbn)
              replace HT := Lib.hid (HT.out.below hbn)
              replace HP := Lib.hid (HP.out.below hbn)
              replace HQ := Lib.hid (HQ.out.below hbn)
              replace Hp := Lib.hid (Hp.out.below hbn)
              replace Hq := Lib.hid (Hq.out.below hbn)
              replace HU := Lib.hid (HU.out.below hbn)
              replace Hl := Lib.hid (Hl.out.below hbn)
              replace HX := Lib.hid (HX.out.below hbn)
              replace HY := Lib.hid (HY.out.below hbn)
              replace Hx := Lib.hid (Hx.out.below hbn)
              replace Hy := Lib.hid (Hy.out.below hbn)
              replace HC := Lib.hid (HC.out.below hbn)
              replace Hc := Lib.hid (Hc.out.below hbn)
              have f0 : w7.cell? ⟨w.heap.size, 0, none⟩ = some (.int .i64 v) := Hf.out.cell 0
              have f1 : w7.cell? ⟨w.heap.size, 1, none⟩ = some (.int .i64 d) := Hf.out.cell 1
              have f2 : w7.cell? ⟨w.heap.size, 2, none⟩ = some (.slice a N cap) := Hf.out.cell 2
              have g0 : w7.cell? ⟨w.heap.size + 1, 0, none⟩ = some (.int .i64 v') := Hg.out.cell 0
              have g1 : w7.cell? ⟨w.heap.size + 1, 1, none⟩ = some (.int .i64 d') := Hg.out.cell 1
              have g2 : w7.cell? ⟨w.heap.size + 1, 2, none⟩ = some (.slice a' N' cap') := Hg.out.cell 2
              have p0 : w7.cell? ⟨w3.heap.size, 0, none⟩ = some (.int .i64 v) := Hp.out.cell 0
              have p1 : w7.cell? ⟨w3.heap.size, 1, none⟩ = some (.int .i64 d) := Hp.out.cell 1
              have p2 : w7.cell? ⟨w3.heap.size, 2, none⟩ = some (.slice (some ⟨r, 0, none⟩) N N) := Hp.out.cell 2
              have q0 : w7.cell? ⟨w3.heap.size + 1, 0, none⟩ = some (.int .i64 v) := Hq.out.cell 0
              have q1 : w7.cell? ⟨w3.heap.size + 1, 1, none⟩ = some (.int .i64 d) := Hq.out.cell 1
              have q2 : w7.cell? ⟨w3.heap.size + 1, 2, none⟩ = some (.slice (some ⟨s, 0, none⟩) N N) := Hq.out.cell 2
              have l0 : w7.cell? ⟨w4.heap.size, 0, none⟩ = some (.int .i64 v) := Hl.out.cell 0
              have l1 : w7.cell? ⟨w4.heap.size, 1, none⟩ = some (.int .i64 d1) := Hl.out.cell 1
              have l2 : w7.cell? ⟨w4.heap.size, 2, none⟩ = some (.slice (some ⟨u, 0, none⟩) M M) := Hl.out.cell 2
              have x0 : w7.cell? ⟨w5.heap.size, 0, none⟩ = some (.int .i64 v) := Hx.out.cell 0
              have x1 : w7.cell? ⟨w5.heap.size, 1, none⟩ = some (.int .i64 d1) := Hx.out.cell 1
              have x2 : w7.cell? ⟨w5.heap.size, 2, none⟩ = some (.slice (some ⟨r1, 0, none⟩) M M) := Hx.out.cell 2
              have y0 : w7.cell? ⟨w5.heap.size + 1, 0, none⟩ = some (.int .i64 v) := Hy.out.cell 0
              have y1 : w7.cell? ⟨w5.heap.size + 1, 1, none⟩ = some (.int .i64 d1) := Hy.out.cell 1
              have y2 : w7.cell? ⟨w5.heap.size + 1, 2, none⟩ = some (.slice (some ⟨s1, 0, none⟩) M M) := Hy.out.cell 2
              have c0 : w7.cell? ⟨w6.heap.size, 0, none⟩ = some (.int .i64 v) := Hc.out.cell 0
              have c1 : w7.cell? ⟨w6.heap.size, 1, none⟩ = some (.int .i64 d1) := Hc.out.cell 1
              have c2 : w7.cell? ⟨w6.heap.size, 2, none⟩ = some (.slice (some ⟨u1, 0, none⟩) M M) := Hc.out.cell 2
              replace Hb := Lib.hid (bnext Hb.out hbn); clear hbn
              have HE : Hid (At w7 (some ⟨u2, 0, none⟩) (dC (liftL V D (halfL V D J I cs)))) := hat
              clear hat
              have lz_f_W7 : w.heap.size < w7.heap.size := Hf.out.lt
              have lz_g_W7 : w.heap.size + 1 < w7.heap.size := Hg.out.lt
              have lz_p_W7 : w3.heap.size < w7.heap.size := Hp.out.lt
              have lz_q_W7 : w3.heap.size + 1 < w7.heap.size := Hq.out.lt
              have lz_l_W7 : w4.heap.size < w7.heap.size := Hl.out.lt
              have lz_x_W7 : w5.heap.size < w7.heap.size := Hx.out.lt
              have lz_y_W7 : w5.heap.size + 1 < w7.heap.size := Hy.out.lt
              have lz_c_W7 : w6.heap.size < w7.heap.size := Hc.out.lt
              go_wp2_with fail
              first | refine wp_world (fun W7 => Blk W7 (w7.heap.size) 24 [.int .i64 v, .int .i64 d1, .slice (some ⟨u2, 0, none⟩) M M] ∧ Below w7.heap.size w7 W7) ?hR ?_ | refine calls_world (fun W7 => Blk W7 (w7.heap.size) 24 [.int .i64 v, .int .i64 d1, .slice (some ⟨u2, 0, none⟩) M M] ∧ Below w7.heap.size w7 W7) ?hR ?_
              case hR => exact ⟨(Blk.newAt w7 _ _ (b := w7.heap.size) rfl), ((Below.refl _ _).alloc (Nat.le_refl _) _)⟩
              rintro W7 ⟨qe, hbn⟩
              have He := Lib.hid qe; clear qe
              clear f0 f1 f2
              replace Hf := Lib.hid (Hf.out.below hbn)
              have f0 : W7.cell? ⟨w.heap.size, 0, none⟩ = some (.int .i64 v) := Hf.out.cell 0
              have f1 : W7.cell? ⟨w.heap.size, 1, none⟩ = some (.int .i64 d) := Hf.out.cell 1
              have f2 : W7.cell? ⟨w.heap.size, 2, none⟩ = some (.slice a N cap) := Hf.out.cell 2
              clear g0 g1 g2
              replace Hg := Lib.hid (Hg.out.below hbn)
              have g0 : W7.cell? ⟨w.heap.size + 1, 0, none⟩ = some (.int .i64 v') := Hg.out.cell 0
              have g1 : W7.cell? ⟨w.heap.size + 1, 1, none⟩ = some (.int .i64 d') := Hg.out.cell 1
              have g2 : W7.cell? ⟨w.heap.size + 1, 2, none⟩ = some (.slice a' N' cap') := Hg.out.cell 2
              replace HA := Lib.hid (HA.out.below hbn)
              replace HG := Lib.hid (HG.out.below hbn)
              replace HT := Lib.hid (HT.out.below hbn)
              replace HP := Lib.hid (HP.out.below hbn)
              replace HQ := Lib.hid (HQ.out.below hbn)
              clear p0 p1 p2
              replace Hp := Lib.hid (Hp.out.below hbn)
              have p0 : W7.cell? ⟨w3.heap.size, 0, none⟩ = some (.int .i64 v) := Hp.out.cell 0
              have p1 : W7.cell? ⟨w3.heap.size, 1, none⟩ = some (.int .i64 d) := Hp.out.cell 1
              have p2 : W7.cell? ⟨w3.heap.size, 2, none⟩ = some (.slice (some ⟨r, 0, none⟩) N N) := Hp.out.cell 2
              clear q0 q1 q2
              replace Hq := Lib.hid (Hq.out.below hbn)
              have q0 : W7.cell? ⟨w3.heap.size + 1, 0, none⟩ = some (.int .i64 v) := Hq.out.cell 0
              have q1 : W7.cell? ⟨w3.heap.size + 1, 1, none⟩ = some (.int .i64 d) := Hq.out.cell 1
              have q2 : W7.cell? ⟨w3.heap.size + 1, 2, none⟩ = some (.slice (some ⟨s, 0, none⟩) N N) := Hq.out.cell 2
              replace HU := Lib.hid (HU.out.below hbn)
              clear l0 l1 l2
              replace Hl := Lib.hid (Hl.out.below hbn)
              have l0 : W7.cell? ⟨w4.heap.size, 0, none⟩ = some (.int .i64 v) := Hl.out.cell 0
              have l1 : W7.cell? ⟨w4.heap.size, 1, none⟩ = some (.int .i64 d1) := Hl.out.cell 1
              have l2 : W7.cell? ⟨w4.heap.size, 2, none⟩ = some (.slice (some ⟨u, 0, none⟩) M M) := Hl.out.cell 2
              replace HX := Lib.hid (HX.out.below hbn)
              replace HY := Lib.hid (HY.out.below hbn)
              clear x0 x1 x2
              replace Hx := Lib.hid (Hx.out.below hbn)
              have x0 : W7.cell? ⟨w5.heap.size, 0, none⟩ = some (.int .i64 v) := Hx.out.cell 0
              have x1 : W7.cell? ⟨w5.heap.size, 1, none⟩ = some (.int .i64 d1) := Hx.out.cell 1
              have x2 : W7.cell? ⟨w5.heap.size, 2, none⟩ = some (.slice (some ⟨r1, 0, none⟩) M M) := Hx.out.cell 2
              clear y0 y1 y2
              replace Hy := Lib.hid (Hy.out.below hbn)
              have y0 : W7.cell? ⟨w5.heap.size + 1, 0, none⟩ = some (.int .i64 v) := Hy.out.cell 0
              have y1 : W7.cell? ⟨w5.heap.size + 1, 1, none⟩ = some (.int .i64 d1) := Hy.out.cell 1
              have y2 : W7.cell? ⟨w5.heap.size + 1, 2, none⟩ = some (.slice (some ⟨s1, 0, none⟩) M M) := Hy.out.cell 2
              replace HC := Lib.hid (HC.out.below hbn)
              clear c0 c1 c2
              replace Hc := Lib.hid (Hc.out.below hbn)
              have c0 : W7.cell? ⟨w6.heap.size, 0, none⟩ = some (.int .i64 v) := Hc.out.cell 0
              have c1 : W7.cell? ⟨w6.heap.size, 1, none⟩ = some (.int .i64 d1) := Hc.out.cell 1
              have c2 : W7.cell? ⟨w6.heap.size, 2, none⟩ = some (.slice (some ⟨u1, 0, none⟩) M M) := Hc.out.cell 2
              replace HE := Lib.hid (HE.out.below hbn)
              have e0 : W7.cell? ⟨w7.heap.size, 0, none⟩ = some (.int .i64 v) := He.out.cell 0
              have e1 : W7.cell? ⟨w7.heap.size, 1, none⟩ = some (.int .i64 d1) := He.out.cell 1
              have e2 : W7.cell? ⟨w7.heap.size, 2, none⟩ = some (.slice (some ⟨u2, 0, none⟩) M M) := He.out.cell 2
              replace Hb := Lib.hid (bnext Hb.out hbn); clear hbn
              go_wp2_with fail
              refine (same_dy v d1 (some ⟨r1, 0, none⟩) (some ⟨u1, 0, none⟩) M M M _ _ Hq1.out _ Hl4.out (Nat.le_trans Hk.out (by decide)) HX.out HC.out).mono ?_
              rintro e w8 ⟨rfl, hbn⟩
              clear f0 f1 f2
              clear g0 g1 g2
              clear p0 p1 p2
              clear q0 q1 q2
              clear l0 l1 l2
              clear x0 x1 x2
              clear y0 y1 y2
              clear c0 c1 c2
              clear e0 e1 e2
              replace Hf := Lib.hid (Hf.out.below hbn)
              replace Hg := Lib.hid (Hg.out.below hbn)
              replace HA := Lib.hid (HA.out.below hbn)
              replace HG := Lib.hid (HG.out.below hbn)
              replace HT := Lib.hid (HT.out.below hbn)
              replace HP := Lib.hid (HP.out.below hbn)
              replace HQ := Lib.hid (HQ.out.below hbn)
              replace Hp := Lib.hid (Hp.out.below hbn)
              replace Hq := Lib.hid (Hq.out.below hbn)
              replace HU := Lib.hid (HU.out.below hbn)
              replace Hl := Lib.hid (Hl.out.below hbn)
              replace HX := Lib.hid (HX.out.below hbn)
              replace HY := Lib.hid (HY.out.below hbn)
              replace Hx := Lib.hid (Hx.out.below hbn)
              replace Hy := Lib.hid (Hy.out.below hbn)
              replace HC := Lib.hid (HC.out.below hbn)
              replace Hc := Lib.hid (Hc.out.below hbn)
              replace HE := Lib.hid (HE.out.below hbn)
              replace He := Lib.hid (He.out.below hbn)
              have f0 : w8.cell? ⟨w.heap.size, 0, none⟩ = some (.int .i64 v) := Hf.out.cell 0
              have f1 : w8.cell? ⟨w.heap.size, 1, none⟩ = some (.int .i64 d) := Hf.out.cell 1
              have f2 : w8.cell? ⟨w.heap.size, 2, none⟩ = some (.slice a N cap) := Hf.out.cell 2
              have g0 : w8.cell? ⟨w.heap.size + 1, 0, none⟩ = some (.int .i64 v') := Hg.out.cell 0
              have g1 : w8.cell? ⟨w.heap.size + 1, 1, none⟩ = some (.int .i64 d') := Hg.out.cell 1
              have g2 : w8.cell? ⟨w.heap.size + 1, 2, none⟩ = some (.slice a' N' cap') := Hg.out.cell 2
              have p0 : w8.cell? ⟨w3.heap.size, 0, none⟩ = some (.int .i64 v) := Hp.out.cell 0
              have p1 : w8.cell? ⟨w3.heap.size, 1, none⟩ = some (.int .i64 d) := Hp.out.cell 1
              have p2 : w8.cell? ⟨w3.heap.size, 2, none⟩ = some (.slice (some ⟨r, 0, none⟩) N N) := Hp.out.cell 2
              have q0 : w8.cell? ⟨w3.heap.size + 1, 0, none⟩ = some (.int .i64 v) := Hq.out.cell 0
              have q1 : w8.cell? ⟨w3.heap.size + 1, 1, none⟩ = some (.int .i64 d) := Hq.out.cell 1
              have q2 : w8.cell? ⟨w3.heap.size + 1, 2, none⟩ = some (.slice (some ⟨s, 0, none⟩) N N) := Hq.out.cell 2
              have l0 : w8.cell? ⟨w4.heap.size, 0, none⟩ = some (.int .i64 v) := Hl.out.cell 0
              have l1 : w8.cell? ⟨w4.heap.size, 1, none⟩ = some (.int .i64 d1) := Hl.out.cell 1
              have l2 : w8.cell? ⟨w4.heap.size, 2, none⟩ = some (.slice (some ⟨u, 0, none⟩) M M) := Hl.out.cell 2
              have x0 : w8.cell? ⟨w5.heap.size, 0, none⟩ = some (.int .i64 v) := Hx.out.cell 0
              have x1 : w8.cell? ⟨w5.heap.size, 1, none⟩ = some (.int .i64 d1) := Hx.out.cell 1
              have x2 : w8.cell? ⟨w5.heap.size, 2, none⟩ = some (.slice (some ⟨r1, 0, none⟩) M M) := Hx.out.cell 2
              have y0 : w8.cell? ⟨w5.heap.size + 1, 0, none⟩ = some (.int .i64 v) := Hy.out.cell 0
              have y1 : w8.cell? ⟨w5.heap.size + 1, 1, none⟩ = some (.int .i64 d1) := Hy.out.cell 1
              have y2 : w8.cell? ⟨w5.heap.size + 1, 2, none⟩ = some (.slice (some ⟨s1, 0, none⟩) M M) := Hy.out.cell 2
              have c0 : w8.cell? ⟨w6.heap.size, 0, none⟩ = some (.int .i64 v) := Hc.out.cell 0
              have c1 : w8.cell? ⟨w6.heap.size, 1, none⟩ = some (.int .i64 d1) := Hc.out.cell 1
              have c2 : w8.cell? ⟨w6.heap.size, 2, none⟩ = some (.slice (some ⟨u1, 0, none⟩) M M) := Hc.out.cell 2
              have e0 : w8.cell? ⟨w7.heap.size, 0, none⟩ = some (.int .i64 v) := He.out.cell 0
              have e1 : w8.cell? ⟨w7.heap.size, 1, none⟩ = some (.int .i64 d1) := He.out.cell 1
              have e2 : w8.cell? ⟨w7.heap.size, 2, none⟩ = some (.slice (some ⟨u2, 0, none⟩) M M) := He.out.cell 2
              replace Hb := Lib.hid (bnext Hb.out hbn); clear hbn
              go_wp2_with fail
              refine (same_dy v d1 (some ⟨s1, 0, none⟩) (some ⟨u2, 0, none⟩) M M M _ _ Hq2.out _ Hl5.out (Nat.le_trans Hk.out (by decide)) HY.out HE.out).mono ?_
              rintro e w9 ⟨rfl, hbn⟩
              clear f0 f1 f2
              clear g0 g1 g2
              clear p0 p1 p2
              clear q0 q1 q2
              clear l0 l1 l2
              clear x0 x1 x2
              clear y0 y1 y2
              clear c0 c1 c2
              clear e0 e1 e2
              replace Hf := Lib.hid (Hf.out.below hbn)
              replace Hg := Lib.hid (Hg.out.below hbn)
              replace HA := Lib.hid (HA.out.below hbn)
              replace HG := Lib.hid (HG.out.below hbn)
              replace HT := Lib.hid (HT.out.below hbn)
              replace HP := Lib.hid (HP.out.below hbn)
              replace HQ := Lib.hid (HQ.out.below hbn)
              replace Hp := Lib.hid (Hp.out.below hbn)
              replace Hq := Lib.hid (Hq.out.below hbn)
              replace HU := Lib.hid (HU.out.below hbn)
              replace Hl := Lib.hid (Hl.out.below hbn)
              replace HX := Lib.hid (HX.out.below hbn)
              replace HY := Lib.hid (HY.out.below hbn)
              replace Hx := Lib.hid (Hx.out.below hbn)
              replace Hy := Lib.hid (Hy.out.below hbn)
              replace HC := Lib.hid (HC.out.below hbn)
              replace Hc := Lib.hid (Hc.out.below hbn)
              replace HE := Lib.hid (HE.out.below hbn)
              replace He := Lib.hid (He.out.below hbn)
              have f0 : w9.cell? ⟨w.heap.size, 0, none⟩ = some (.int .i64 v) := Hf.out.cell 0
              have f1 : w9.cell? ⟨w.heap.size, 1, none⟩ = some (.int .i64 d) := Hf.out.cell 1
              have f2 : w9.cell? ⟨w.heap.size, 2, none⟩ = some (.slice a N cap) := Hf.out.cell 2
              have g0 : w9.cell? ⟨w.heap.size + 1, 0, none⟩ = some (.int .i64 v') := Hg.out.cell 0
              have g1 : w9.cell? ⟨w.heap.size + 1, 1, none⟩ = some (.int .i64 d') := Hg.out.cell 1
              have g2 : w9.cell? ⟨w.heap.size + 1, 2, none⟩ = some (.slice a' N' cap') := Hg.out.cell 2
              have p0 : w9.cell? ⟨w3.heap.size, 0, none⟩ = some (.int .i64 v) := Hp.out.cell 0
              have p1 : w9.cell? ⟨w3.heap.size, 1, none⟩ = some (.int .i64 d) := Hp.out.cell 1
              have p2 : w9.cell? ⟨w3.heap.size, 2, none⟩ = some (.slice (some ⟨r, 0, none⟩) N N) := Hp.out.cell 2
              have q0 : w9.cell? ⟨w3.heap.size + 1, 0, none⟩ = some (.int .i64 v) := Hq.out.cell 0
              have q1 : w9.cell? ⟨w3.heap.size + 1, 1, none⟩ = some (.int .i64 d) := Hq.out.cell 1
              have q2 : w9.cell? ⟨w3.heap.size + 1, 2, none⟩ = some (.slice (some ⟨s, 0, none⟩) N N) := Hq.out.cell 2
              have l0 : w9.cell? ⟨w4.heap.size, 0, none⟩ = some (.int .i64 v) := Hl.out.cell 0
              have l1 : w9.cell? ⟨w4.heap.size, 1, none⟩ = some (.int .i64 d1) := Hl.out.cell 1
              have l2 : w9.cell? ⟨w4.heap.size, 2, none⟩ = some (.slice (some ⟨u, 0, none⟩) M M) := Hl.out.cell 2
              have x0 : w9.cell? ⟨w5.heap.size, 0, none⟩ = some (.int .i64 v) := Hx.out.cell 0
              have x1 : w9.cell? ⟨w5.heap.size, 1, none⟩ = some (.int .i64 d1) := Hx.out.cell 1
              have x2 : w9.cell? ⟨w5.heap.size, 2, none⟩ = some (.slice (some ⟨r1, 0, none⟩) M M) := Hx.out.cell 2
              have y0 : w9.cell? ⟨w5.heap.size + 1, 0, none⟩ = some (.int .i64 v) := Hy.out.cell 0
              have y1 : w9.cell? ⟨w5.heap.size + 1, 1, none⟩ = some (.int .i64 d1) := Hy.out.cell 1
              have y2 : w9.cell? ⟨w5.heap.size + 1, 2, none⟩ = some (.slice (some ⟨s1, 0, none⟩) M M) := Hy.out.cell 2
              have c0 : w9.cell? ⟨w6.heap.size, 0, none⟩ = some (.int .i64 v) := Hc.out.cell 0
              have c1 : w9.cell? ⟨w6.heap.size, 1, none⟩ = some (.int .i64 d1) := Hc.out.cell 1
              have c2 : w9.cell? ⟨w6.heap.size, 2, none⟩ = some (.slice (some ⟨u1, 0, none⟩) M M) := Hc.out.cell 2
              have e0 : w9.cell? ⟨w7.heap.size, 0, none⟩ = some (.int .i64 v) := He.out.cell 0
              have e1 : w9.cell? ⟨w7.heap.size, 1, none⟩ = some (.int .i64 d1) := He.out.cell 1
              have e2 : w9.cell? ⟨w7.heap.size, 2, none⟩ = some (.slice (some ⟨u2, 0, none⟩) M M) := He.out.cell 2
              replace Hb := Lib.hid (bnext Hb.out hbn); clear hbn
              clear x0 x1 x2
              clear Hx
              clear y0 y1 y2
              clear Hy
              clear c0 c1 c2
              clear Hc
              clear e0 e1 e2
              clear He
              clear HX
              clear HY
              clear HC
              clear HE
              clear HQ
              clear q0 q1 q2
              clear Hq
              go_wp2_with fail
              go_loopw [21] (fun x wr => ∃ k : Nat, k ≤ V + 1 ∧ x = .int .i64 (k : Int) ∧ Below w9.heap.size w9 wr) (fun x _ => (V + 2 - (intOf x).toNat : Nat))
              case atStart => exact ⟨0, by omega, rfl, Below.refl _ _⟩
              case round =>
                obtain ⟨k, hk, rfl, pb⟩ := hrel
                have Hpb := Lib.hid pb
                have HbO := Hb
                clear f0 f1 f2
                clear g0 g1 g2
                clear p0 p1 p2
                clear l0 l1 l2
                replace Hf := Lib.hid (Hf.out.below pb)
                replace Hg := Lib.hid (Hg.out.below pb)
                replace HA := Lib.hid (HA.out.below pb)
                replace HG := Lib.hid (HG.out.below pb)
                replace HT := Lib.hid (HT.out.below pb)
                replace HP := Lib.hid (HP.out.below pb)
                replace Hp := Lib.hid (Hp.out.below pb)
                replace HU := Lib.hid (HU.out.below pb)
                replace Hl := Lib.hid (Hl.out.below pb)
                have f0 : wr.cell? ⟨w.heap.size, 0, none⟩ = some (.int .i64 v) := Hf.out.cell 0
                have f1 : wr.cell? ⟨w.heap.size, 1, none⟩ = some (.int .i64 d) := Hf.out.cell 1
                have f2 : wr.cell? ⟨w.heap.size, 2, none⟩ = some (.slice a N cap) := Hf.out.cell 2
                have g0 : wr.cell? ⟨w.heap.size + 1, 0, none⟩ = some (.int .i64 v') := Hg.out.cell 0
                have g1 : wr.cell? ⟨w.heap.size + 1, 1, none⟩ = some (.int .i64 d') := Hg.out.cell 1
                have g2 : wr.cell? ⟨w.heap.size + 1, 2, none⟩ = some (.slice a' N' cap') := Hg.out.cell 2
                have p0 : wr.cell? ⟨w3.heap.size, 0, none⟩ = some (.int .i64 v) := Hp.out.cell 0
                have p1 : wr.cell? ⟨w3.heap.size, 1, none⟩ = some (.int .i64 d) := Hp.out.cell 1
                have p2 : wr.cell? ⟨w3.heap.size, 2, none⟩ = some (.slice (some ⟨r, 0, none⟩) N N) := Hp.out.cell 2
                have l0 : wr.cell? ⟨w4.heap.size, 0, none⟩ = some (.int .i64 v) := Hl.out.cell 0
                have l1 : wr.cell? ⟨w4.heap.size, 1, none⟩ = some (.int .i64 d1) := Hl.out.cell 1
                have l2 : wr.cell? ⟨w4.heap.size, 2, none⟩ = some (.slice (some ⟨u, 0, none⟩) M M) := Hl.out.cell 2
                clear pb
                by_cases hlt : k ≤ V
                · obtain ⟨C, hC⟩ : ∃ C, cornTo k D (rowsL (V + 1) D) cs (rowsL (V + 1) D).length = C := ⟨_, rfl⟩
                  have hC2 := order_corner V D k cs hlt
                  rw [hC] at hC2
                  have HC := Lib.hid hC; have HC2 := Lib.hid hC2; clear hC hC2
                  have hkv : (k : Int) ≤ v := by have := HVv.out; omega
                  have Hlt := Lib.hid hlt; clear hlt
                  replace Hb := Hpb
                  go_wp2_with fail
                  refine (corner_raw V D v d HVv.out HDd.out a cap N raws HN.out cs Hcs.out k 192 C _ Hck.out Hlt.out HC.out Hfair.out.fit HA.out HT.out).mono ?_
                  rintro e x1 ⟨rfl, hbn⟩
                  clear f0 f1 f2
                  clear g0 g1 g2
                  clear p0 p1 p2
                  clear l0 l1 l2
                  replace Hf := Lib.hid (Hf.out.below hbn)
                  replace Hg := Lib.hid (Hg.out.below hbn)
                  replace HA := Lib.hid (HA.out.below hbn)
                  replace HG := Lib.hid (HG.out.below hbn)
                  replace HT := Lib.hid (HT.out.below hbn)
                  replace HP := Lib.hid (HP.out.below hbn)
                  replace Hp := Lib.hid (Hp.out.below hbn)
                  replace HU := Lib.hid (HU.out.below hbn)
                  replace Hl := Lib.hid (Hl.out.below hbn)
                  have f0 : x1.cell? ⟨w.heap.size, 0, none⟩ = some (.int .i64 v) := Hf.out.cell 0
                  have f1 : x1.cell? ⟨w.heap.size, 1, none⟩ = some (.int .i64 d) := Hf.out.cell 1
                  have f2 : x1.cell? ⟨w.heap.size, 2, none⟩ = some (.slice a N cap) := Hf.out.cell 2
                  have g0 : x1.cell? ⟨w.heap.size + 1, 0, none⟩ = some (.int .i64 v') := Hg.out.cell 0
                  have g1 : x1.cell? ⟨w.heap.size + 1, 1, none⟩ = some (.int .i64 d') := Hg.out.cell 1
                  have g2 : x1.cell? ⟨w.heap.size + 1, 2, none⟩ = some (.slice a' N' cap') := Hg.out.cell 2
                  have p0 : x1.cell? ⟨w3.heap.size, 0, none⟩ = some (.int .i64 v) := Hp.out.cell 0
                  have p1 : x1.cell? ⟨w3.heap.size, 1, none⟩ = some (.int .i64 d) := Hp.out.cell 1
                  have p2 : x1.cell? ⟨w3.heap.size, 2, none⟩ = some (.slice (some ⟨r, 0, none⟩) N N) := Hp.out.cell 2
                  have l0 : x1.cell? ⟨w4.heap.size, 0, none⟩ = some (.int .i64 v) := Hl.out.cell 0
                  have l1 : x1.cell? ⟨w4.heap.size, 1, none⟩ = some (.int .i64 d1) := Hl.out.cell 1
                  have l2 : x1.cell? ⟨w4.heap.size, 2, none⟩ = some (.slice (some ⟨u, 0, none⟩) M M) := Hl.out.cell 2
                  replace Hb := Lib.hid (bnext Hb.out hbn); clear hbn
                  have lz_f_X1 : w.heap.size < x1.heap.size := Hf.out.lt
                  have lz_g_X1 : w.heap.size + 1 < x1.heap.size := Hg.out.lt
                  have lz_p_X1 : w3.heap.size < x1.heap.size := Hp.out.lt
                  have lz_l_X1 : w4.heap.size < x1.heap.size := Hl.out.lt
                  go_wp2_with fail
                  first | refine wp_world (fun X1 => Blk X1 (x1.heap.size) 36 [.bool (sgnB (dN C)), .string (bs (nt (dN C).natAbs)), .int .i64 (dE C)] ∧ Below x1.heap.size x1 X1) ?hR ?_ | refine calls_world (fun X1 => Blk X1 (x1.heap.size) 36 [.bool (sgnB (dN C)), .string (bs (nt (dN C).natAbs)), .int .i64 (dE C)] ∧ Below x1.heap.size x1 X1) ?hR ?_
                  case hR => exact ⟨(Blk.newAt x1 _ _ (b := x1.heap.size) rfl), ((Below.refl _ _).alloc (Nat.le_refl _) _)⟩
                  rintro X1 ⟨qy, hbn⟩
                  have Hy := Lib.hid qy; clear qy
                  clear f0 f1 f2
                  replace Hf := Lib.hid (Hf.out.below hbn)
                  have f0 : X1.cell? ⟨w.heap.size, 0, none⟩ = some (.int .i64 v) := Hf.out.cell 0
                  have f1 : X1.cell? ⟨w.heap.size, 1, none⟩ = some (.int .i64 d) := Hf.out.cell 1
                  have f2 : X1.cell? ⟨w.heap.size, 2, none⟩ = some (.slice a N cap) := Hf.out.cell 2
                  clear g0 g1 g2
                  replace Hg := Lib.hid (Hg.out.below hbn)
                  have g0 : X1.cell? ⟨w.heap.size + 1, 0, none⟩ = some (.int .i64 v') := Hg.out.cell 0
                  have g1 : X1.cell? ⟨w.heap.size + 1, 1, none⟩ = some (.int .i64 d') := Hg.out.cell 1
                  have g2 : X1.cell? ⟨w.heap.size + 1, 2, none⟩ = some (.slice a' N' cap') := Hg.out.cell 2
                  replace HA := Lib.hid (HA.out.below hbn)
                  replace HG := Lib.hid (HG.out.below hbn)
                  replace HT := Lib.hid (HT.out.below hbn)
                  replace HP := Lib.hid (HP.out.below hbn)
                  clear p0 p1 p2
                  replace Hp := Lib.hid (Hp.out.below hbn)
                  have p0 : X1.cell? ⟨w3.heap.size, 0, none⟩ = some (.int .i64 v) := Hp.out.cell 0
                  have p1 : X1.cell? ⟨w3.heap.size, 1, none⟩ = some (.int .i64 d) := Hp.out.cell 1
                  have p2 : X1.cell? ⟨w3.heap.size, 2, none⟩ = some (.slice (some ⟨r, 0, none⟩) N N) := Hp.out.cell 2
                  replace HU := Lib.hid (HU.out.below hbn)
                  clear l0 l1 l2
                  replace Hl := Lib.hid (Hl.out.below hbn)
                  have l0 : X1.cell? ⟨w4.heap.size, 0, none⟩ = some (.int .i64 v) := Hl.out.cell 0
                  have l1 : X1.cell? ⟨w4.heap.size, 1, none⟩ = some (.int .i64 d1) := Hl.out.cell 1
                  have l2 : X1.cell? ⟨w4.heap.size, 2, none⟩ = some (.slice (some ⟨u, 0, none⟩) M M) := Hl.out.cell 2
                  have y0 : X1.cell? ⟨x1.heap.size, 0, none⟩ = some (.bool (sgnB (dN C))) := Hy.out.cell 0
                  have y1 : X1.cell? ⟨x1.heap.size, 1, none⟩ = some (.string (bs (nt (dN C).natAbs))) := Hy.out.cell 1
                  have y2 : X1.cell? ⟨x1.heap.size, 2, none⟩ = some (.int .i64 (dE C)) := Hy.out.cell 2
                  replace Hb := Lib.hid (bnext Hb.out hbn); clear hbn
                  go_wp2_with fail
                  refine (corner_dy V (D + 1) v d1 HVv.out Hd1.out (some ⟨u, 0, none⟩) M M (liftL V D cs) Hl3.out k 4800 C _ Hc1.out Hlt.out HC2.out Hp3.out (by decide) HU.out HT.out).mono ?_
                  rintro e x2 ⟨rfl, hbn⟩
                  clear f0 f1 f2
                  clear g0 g1 g2
                  clear p0 p1 p2
                  clear l0 l1 l2
                  clear y0 y1 y2
                  replace Hf := Lib.hid (Hf.out.below hbn)
                  replace Hg := Lib.hid (Hg.out.below hbn)
                  replace HA := Lib.hid (HA.out.below hbn)
                  replace HG := Lib.hid (HG.out.below hbn)
                  replace HT := Lib.hid (HT.out.below hbn)
                  replace HP := Lib.hid (HP.out.below hbn)
                  replace Hp := Lib.hid (Hp.out.below hbn)
                  replace HU := Lib.hid (HU.out.below hbn)
                  replace Hl := Lib.hid (Hl.out.below hbn)
                  replace Hy := Lib.hid (Hy.out.below hbn)
                  have f0 : x2.cell? ⟨w.heap.size, 0, none⟩ = some (.int .i64 v) := Hf.out.cell 0
                  have f1 : x2.cell? ⟨w.heap.size, 1, none⟩ = some (.int .i64 d) := Hf.out.cell 1
                  have f2 : x2.cell? ⟨w.heap.size, 2, none⟩ = some (.slice a N cap) := Hf.out.cell 2
                  have g0 : x2.cell? ⟨w.heap.size + 1, 0, none⟩ = some (.int .i64 v') := Hg.out.cell 0
                  have g1 : x2.cell? ⟨w.heap.size + 1, 1, none⟩ = some (.int .i64 d') := Hg.out.cell 1
                  have g2 : x2.cell? ⟨w.heap.size + 1, 2, none⟩ = some (.slice a' N' cap') := Hg.out.cell 2
                  have p0 : x2.cell? ⟨w3.heap.size, 0, none⟩ = some (.int .i64 v) := Hp.out.cell 0
                  have p1 : x2.cell? ⟨w3.heap.size, 1, none⟩ = some (.int .i64 d) := Hp.out.cell 1
                  have p2 : x2.cell? ⟨w3.heap.size, 2, none⟩ = some (.slice (some ⟨r, 0, none⟩) N N) := Hp.out.cell 2
                  have l0 : x2.cell? ⟨w4.heap.size, 0, none⟩ = some (.int .i64 v) := Hl.out.cell 0
                  have l1 : x2.cell? ⟨w4.heap.size, 1, none⟩ = some (.int .i64 d1) := Hl.out.cell 1
                  have l2 : x2.cell? ⟨w4.heap.size, 2, none⟩ = some (.slice (some ⟨u, 0, none⟩) M M) := Hl.out.cell 2
                  have y0 : x2.cell? ⟨x1.heap.size, 0, none⟩ = some (.bool (sgnB (dN C))) := Hy.out.cell 0
                  have y1 : x2.cell? ⟨x1.heap.size, 1, none⟩ = some (.string (bs (nt (dN C).natAbs))) := Hy.out.cell 1
                  have y2 : x2.cell? ⟨x1.heap.size, 2, none⟩ = some (.int .i64 (dE C)) := Hy.out.cell 2
                  replace Hb := Lib.hid (bnext Hb.out hbn); clear hbn
                  have lzy := Hy.out.lt
                  have hk8 : k ≤ 8 := by have := Hlt.out; have := H8.out; omega
                  go_wp2
                  go_roundw
                  case rel => exact ⟨k + 1, by have := Hlt.out; omega, by go_num, Hb.out.alloc (by have := Hb.out.size; omega) _⟩
                  case measure => simp [intOf]; have := Hlt.out; omega
                · have hkv : ¬ (k : Int) ≤ v := by have := HVv.out; omega
                  replace Hb := Lib.hid (bnext HbO.out Hpb.out)
                  by_cases hc' : chk v' d' N' = 0
                  · by_cases he : v = v' ∧ d = d'
                    · obtain ⟨he1, he2⟩ := he
                      have hv2 : Hid ((V : Int) = v') := by have := HVv.out; show _ = _; omega
                      have hd2 : Hid ((D : Int) = d') := by have := HDd.out; show _ = _; omega
                      have hNN : Hid (N' = N) := by
                        obtain ⟨_, _, _, _, h5, _⟩ := chk_ok hc'
                        have h6 := hv2.out; have h7 := hd2.out
                        show _ = _
                        rw [h5, ← Hcnt.out]; congr 1 <;> omega
                      have Hck' := Lib.hid hc'
                      clear hc' he1 he2
                      have hle : cs.length = N := by rw [← Hcs.out, List.length_map]; exact HN.out
                      have hle' : cs'.length = N := by rw [← Hcs'.out, List.length_map, HN'.out]; exact hNN.out
                      have Hzs : Hid (∀ c ∈ List.zipWith (· + ·) cs cs', Sm 193 c) := zip_sm Hsm.out Hsm'.out
                      have Hlz : Hid ((List.zipWith (· + ·) cs cs').length = N) := by show _ = _; rw [List.length_zipWith, hle, hle']; omega
                      have Hl6 : Hid ((halfL V D I J cs').length = N') := by show _ = _; rw [halfL_len, hNN.out]; exact Hcnt.out
                      have Hl7 : Hid ((halfL V D I J (List.zipWith (· + ·) cs cs')).length = N) := by show _ = _; rw [halfL_len]; exact Hcnt.out
                      have Hp6 : Hid (∀ c ∈ halfL V D I J cs', Sm 10986 c) := halfL_sm Hsm'.out hD20.out.2.2 hcD.out HIJ.out
                      have Hq3 := Lib.hid (order_add V D I J cs cs' (hle.trans hle'.symm))
                      clear hle hle'
                      go_wp2_with fail
                      refine (add_raw V D v d v' d' HVv.out HDd.out hv2.out hd2.out a a' cap cap' N N' raws raws' HN.out HN'.out hNN.out cs cs' Hcs.out Hcs'.out 192 _ Hck.out Hfair.out.fit Hfair'.out.fit (by decide) HA.out HG.out HT.out).mono ?_
                      rintro e y1 ⟨a2, cap2, rfl, hat, hbn⟩
                      clear f0 f1 f2
                      clear g0 g1 g2
                      clear p0 p1 p2
                      clear l0 l1 l2
                      replace Hf := Lib.hid (Hf.out.below hbn)
                      replace Hg := Lib.hid (Hg.out.below hbn)
                      replace HA := Lib.hid (HA.out.below hbn)
                      replace HG := Lib.hid (HG.out.below hbn)
                      replace HT := Lib.hid (HT.out.below hbn)
                      replace HP := Lib.hid (HP.out.below hbn)
                      replace Hp := Lib.hid (Hp.out.below hbn)
                      replace HU := Lib.hid (HU.out.below hbn)
                      replace Hl := Lib.hid (Hl.out.below hbn)
                      have f0 : y1.cell? ⟨w.heap.size, 0, none⟩ = some (.int .i64 v) := Hf.out.cell 0
                      have f1 : y1.cell? ⟨w.heap.size, 1, none⟩ = some (.int .i64 d) := Hf.out.cell 1
                      have f2 : y1.cell? ⟨w.heap.size, 2, none⟩ = some (.slice a N cap) := Hf.out.cell 2
                      have g0 : y1.cell? ⟨w.heap.size + 1, 0, none⟩ = some (.int .i64 v') := Hg.out.cell 0
                      have g1 : y1.cell? ⟨w.heap.size + 1, 1, none⟩ = some (.int .i64 d') := Hg.out.cell 1
                      have g2 : y1.cell? ⟨w.heap.size + 1, 2, none⟩ = some (.slice a' N' cap') := Hg.out.cell 2
                      have p0 : y1.cell? ⟨w3.heap.size, 0, none⟩ = some (.int .i64 v) := Hp.out.cell 0
                      have p1 : y1.cell? ⟨w3.heap.size, 1, none⟩ = some (.int .i64 d) := Hp.out.cell 1
                      have p2 : y1.cell? ⟨w3.heap.size, 2, none⟩ = some (.slice (some ⟨r, 0, none⟩) N N) := Hp.out.cell 2
                      have l0 : y1.cell? ⟨w4.heap.size, 0, none⟩ = some (.int .i64 v) := Hl.out.cell 0
                      have l1 : y1.cell? ⟨w4.heap.size, 1, none⟩ = some (.int .i64 d1) := Hl.out.cell 1
                      have l2 : y1.cell? ⟨w4.heap.size, 2, none⟩ = some (.slice (some ⟨u, 0, none⟩) M M) := Hl.out.cell 2
                      replace Hb := Lib.hid (bnext Hb.out hbn); clear hbn
                      have HS : Hid (At y1 a2 (dC (List.zipWith (· + ·) cs cs'))) := hat
                      clear hat
                      have lz_f_Y1 : w.heap.size < y1.heap.size := Hf.out.lt
                      have lz_g_Y1 : w.heap.size + 1 < y1.heap.size := Hg.out.lt
                      have lz_p_Y1 : w3.heap.size < y1.heap.size := Hp.out.lt
                      have lz_l_Y1 : w4.heap.size < y1.heap.size := Hl.out.lt
                      go_wp2_with fail
                      first | refine wp_world (fun Y1 => Blk Y1 (y1.heap.size) 24 [.int .i64 v, .int .i64 d, .slice a2 N cap2] ∧ Below y1.heap.size y1 Y1) ?hR ?_ | refine calls_world (fun Y1 => Blk Y1 (y1.heap.size) 24 [.int .i64 v, .int .i64 d, .slice a2 N cap2] ∧ Below y1.heap.size y1 Y1) ?hR ?_
                      case hR => exact ⟨(Blk.newAt y1 _ _ (b := y1.heap.size) rfl), ((Below.refl _ _).alloc (Nat.le_refl _) _)⟩
                      rintro Y1 ⟨qz, hbn⟩
                      have Hz := Lib.hid qz; clear qz
                      clear f0 f1 f2
                      replace Hf := Lib.hid (Hf.out.below hbn)
                      have f0 : Y1.cell? ⟨w.heap.size, 0, none⟩ = some (.int .i64 v) := Hf.out.cell 0
                      have f1 : Y1.cell? ⟨w.heap.size, 1, none⟩ = some (.int .i64 d) := Hf.out.cell 1
                      have f2 : Y1.cell? ⟨w.heap.size, 2, none⟩ = some (.slice a N cap) := Hf.out.cell 2
                      clear g0 g1 g2
                      replace Hg := Lib.hid (Hg.out.below hbn)
                      have g0 : Y1.cell? ⟨w.heap.size + 1, 0, none⟩ = some (.int .i64 v') := Hg.out.cell 0
                      have g1 : Y1.cell? ⟨w.heap.size + 1, 1, none⟩ = some (.int .i64 d') := Hg.out.cell 1
                      have g2 : Y1.cell? ⟨w.heap.size + 1, 2, none⟩ = some (.slice a' N' cap') := Hg.out.cell 2
                      replace HA := Lib.hid (HA.out.below hbn)
                      replace HG := Lib.hid (HG.out.below hbn)
                      replace HT := Lib.hid (HT.out.below hbn)
                      replace HP := Lib.hid (HP.out.below hbn)
                      clear p0 p1 p2
                      replace Hp := Lib.hid (Hp.out.below hbn)
                      have p0 : Y1.cell? ⟨w3.heap.size, 0, none⟩ = some (.int .i64 v) := Hp.out.cell 0
                      have p1 : Y1.cell? ⟨w3.heap.size, 1, none⟩ = some (.int .i64 d) := Hp.out.cell 1
                      have p2 : Y1.cell? ⟨w3.heap.size, 2, none⟩ = some (.slice (some ⟨r, 0, none⟩) N N) := Hp.out.cell 2
                      replace HU := Lib.hid (HU.out.below hbn)
                      clear l0 l1 l2
                      replace Hl := Lib.hid (Hl.out.below hbn)
                      have l0 : Y1.cell? ⟨w4.heap.size, 0, none⟩ = some (.int .i64 v) := Hl.out.cell 0
                      have l1 : Y1.cell? ⟨w4.heap.size, 1, none⟩ = some (.int .i64 d1) := Hl.out.cell 1
                      have l2 : Y1.cell? ⟨w4.heap.size, 2, none⟩ = some (.slice (some ⟨u, 0, none⟩) M M) := Hl.out.cell 2
                      replace HS := Lib.hid (HS.out.below hbn)
                      have z0 : Y1.cell? ⟨y1.heap.size, 0, none⟩ = some (.int .i64 v) := Hz.out.cell 0
                      have z1 : Y1.cell? ⟨y1.heap.size, 1, none⟩ = some (.int .i64 d) := Hz.out.cell 1
                      have z2 : Y1.cell? ⟨y1.heap.size, 2, none⟩ = some (.slice a2 N cap2) := Hz.out.cell 2
                      replace Hb := Lib.hid (bnext Hb.out hbn); clear hbn
                      go_wp2_with fail
                      refine (split_dy V D v d HVv.out HDd.out a2 cap2 N _ Hlz.out I J i j HIi.out HJj.out 193 _ Hck.out HIV.out HJV.out HIJ.out Hzs.out (by decide) HS.out HT.out).mono ?_
                      rintro e y2 ⟨r3, s3, rfl, hat, hat2, hbn⟩
                      clear f0 f1 f2
                      clear g0 g1 g2
                      clear p0 p1 p2
                      clear l0 l1 l2
                      clear z0 z1 z2
                      replace Hf := Lib.hid (Hf.out.below hbn)
                      replace Hg := Lib.hid (Hg.out.below hbn)
                      replace HA := Lib.hid (HA.out.below hbn)
                      replace HG := Lib.hid (HG.out.below hbn)
                      replace HT := Lib.hid (HT.out.below hbn)
                      replace HP := Lib.hid (HP.out.below hbn)
                      replace Hp := Lib.hid (Hp.out.below hbn)
                      replace HU := Lib.hid (HU.out.below hbn)
                      replace Hl := Lib.hid (Hl.out.below hbn)
                      replace HS := Lib.hid (HS.out.below hbn)
                      replace Hz := Lib.hid (Hz.out.below hbn)
                      have f0 : y2.cell? ⟨w.heap.size, 0, none⟩ = some (.int .i64 v) := Hf.out.cell 0
                      have f1 : y2.cell? ⟨w.heap.size, 1, none⟩ = some (.int .i64 d) := Hf.out.cell 1
                      have f2 : y2.cell? ⟨w.heap.size, 2, none⟩ = some (.slice a N cap) := Hf.out.cell 2
                      have g0 : y2.cell? ⟨w.heap.size + 1, 0, none⟩ = some (.int .i64 v') := Hg.out.cell 0
                      have g1 : y2.cell? ⟨w.heap.size + 1, 1, none⟩ = some (.int .i64 d') := Hg.out.cell 1
                      have g2 : y2.cell? ⟨w.heap.size + 1, 2, none⟩ = some (.slice a' N' cap') := Hg.out.cell 2
                      have p0 : y2.cell? ⟨w3.heap.size, 0, none⟩ = some (.int .i64 v) := Hp.out.cell 0
                      have p1 : y2.cell? ⟨w3.heap.size, 1, none⟩ = some (.int .i64 d) := Hp.out.cell 1
                      have p2 : y2.cell? ⟨w3.heap.size, 2, none⟩ = some (.slice (some ⟨r, 0, none⟩) N N) := Hp.out.cell 2
                      have l0 : y2.cell? ⟨w4.heap.size, 0, none⟩ = some (.int .i64 v) := Hl.out.cell 0
                      have l1 : y2.cell? ⟨w4.heap.size, 1, none⟩ = some (.int .i64 d1) := Hl.out.cell 1
                      have l2 : y2.cell? ⟨w4.heap.size, 2, none⟩ = some (.slice (some ⟨u, 0, none⟩) M M) := Hl.out.cell 2
                      have z0 : y2.cell? ⟨y1.heap.size, 0, none⟩ = some (.int .i64 v) := Hz.out.cell 0
                      have z1 : y2.cell? ⟨y1.heap.size, 1, none⟩ = some (.int .i64 d) := Hz.out.cell 1
                      have z2 : y2.cell? ⟨y1.heap.size, 2, none⟩ = some (.slice a2 N cap2) := Hz.out.cell 2
                      replace Hb := Lib.hid (bnext Hb.out hbn); clear hbn
                      have HS1 : Hid (At y2 (some ⟨r3, 0, none⟩) (dC (halfL V D I J (List.zipWith (· + ·) cs cs')))) := hat
                      clear hat hat2
                      have lz_f_Y2 : w.heap.size < y2.heap.size := Hf.out.lt
                      have lz_g_Y2 : w.heap.size + 1 < y2.heap.size := Hg.out.lt
                      have lz_p_Y2 : w3.heap.size < y2.heap.size := Hp.out.lt
                      have lz_l_Y2 : w4.heap.size < y2.heap.size := Hl.out.lt
                      have lz_z_Y2 : y1.heap.size < y2.heap.size := Hz.out.lt
                      go_wp2_with fail
                      first | refine wp_world (fun Y2 => Blk Y2 (y2.heap.size) 24 [.int .i64 v, .int .i64 d, .slice (some ⟨r3, 0, none⟩) N N] ∧ Blk Y2 (y2.heap.size + 1) 24 [.int .i64 v, .int .i64 d, .slice (some ⟨s3, 0, none⟩) N N] ∧ Below y2.heap.size y2 Y2) ?hR ?_ | refine calls_world (fun Y2 => Blk Y2 (y2.heap.size) 24 [.int .i64 v, .int .i64 d, .slice (some ⟨r3, 0, none⟩) N N] ∧ Blk Y2 (y2.heap.size + 1) 24 [.int .i64 v, .int .i64 d, .slice (some ⟨s3, 0, none⟩) N N] ∧ Below y2.heap.size y2 Y2) ?hR ?_
                      case hR => exact ⟨((Blk.newAt y2 _ _ (b := y2.heap.size) rfl).alloc _), (Blk.newAt (y2.alloc _) _ _ (b := y2.heap.size + 1) (by simp)), (((Below.refl _ _).alloc (Nat.le_refl _) _).alloc (by simp <;> omega) _)⟩
                      rintro Y2 ⟨qm, qn, hbn⟩
                      have Hm := Lib.hid qm; clear qm
                      have Hn := Lib.hid qn; clear qn
                      clear f0 f1 f2
                      replace Hf := Lib.hid (Hf.out.below hbn)
                      have f0 : Y2.cell? ⟨w.heap.size, 0, none⟩ = some (.int .i64 v) := Hf.out.cell 0
                      have f1 : Y2.cell? ⟨w.heap.size, 1, none⟩ = some (.int .i64 d) := Hf.out.cell 1
                      have f2 : Y2.cell? ⟨w.heap.size, 2, none⟩ = some (.slice a N cap) := Hf.out.cell 2
                      clear g0 g1 g2
                      replace Hg := Lib.hid (Hg.out.below hbn)
                      have g0 : Y2.cell? ⟨w.heap.size + 1, 0, none⟩ = some (.int .i64 v') := Hg.out.cell 0
                      have g1 : Y2.cell? ⟨w.heap.size + 1, 1, none⟩ = some (.int .i64 d') := Hg.out.cell 1
                      have g2 : Y2.cell? ⟨w.heap.size + 1, 2, none⟩ = some (.slice a' N' cap') := Hg.out.cell 2
                      replace HA := Lib.hid (HA.out.below hbn)
                      replace HG := Lib.hid (HG.out.below hbn)
                      replace HT := Lib.hid (HT.out.below hbn)
                      replace HP := Lib.hid (HP.out.below hbn)
                      clear p0 p1 p2
                      replace Hp := Lib.hid (Hp.out.below hbn)
                      have p0 : Y2.cell? ⟨w3.heap.size, 0, none⟩ = some (.int .i64 v) := Hp.out.cell 0
                      have p1 : Y2.cell? ⟨w3.heap.size, 1, none⟩ = some (.int .i64 d) := Hp.out.cell 1
                      have p2 : Y2.cell? ⟨w3.heap.size, 2, none⟩ = some (.slice (some ⟨r, 0, none⟩) N N) := Hp.out.cell 2
                      replace HU := Lib.hid (HU.out.below hbn)
                      clear l0 l1 l2
                      replace Hl := Lib.hid (Hl.out.below hbn)
                      have l0 : Y2.cell? ⟨w4.heap.size, 0, none⟩ = some (.int .i64 v) := Hl.out.cell 0
                      have l1 : Y2.cell? ⟨w4.heap.size, 1, none⟩ = some (.int .i64 d1) := Hl.out.cell 1
                      have l2 : Y2.cell? ⟨w4.heap.size, 2, none⟩ = some (.slice (some ⟨u, 0, none⟩) M M) := Hl.out.cell 2
                      replace HS := Lib.hid (HS.out.below hbn)
                      clear z0 z1 z2
                      replace Hz := Lib.hid (Hz.out.below hbn)
                      have z0 : Y2.cell? ⟨y1.heap.size, 0, none⟩ = some (.int .i64 v) := Hz.out.cell 0
                      have z1 : Y2.cell? ⟨y1.heap.size, 1, none⟩ = some (.int .i64 d) := Hz.out.cell 1
                      have z2 : Y2.cell? ⟨y1.heap.size, 2, none⟩ = some (.slice a2 N cap2) := Hz.out.cell 2
                      replace HS1 := Lib.hid (HS1.out.below hbn)
                      have m0 : Y2.cell? ⟨y2.heap.size, 0, none⟩ = some (.int .i64 v) := Hm.out.cell 0
                      have m1 : Y2.cell? ⟨y2.heap.size, 1, none⟩ = some (.int .i64 d) := Hm.out.cell 1
                      have m2 : Y2.cell? ⟨y2.heap.size, 2, none⟩ = some (.slice (some ⟨r3, 0, none⟩) N N) := Hm.out.cell 2
                      have n0 : Y2.cell? ⟨y2.heap.size + 1, 0, none⟩ = some (.int .i64 v) := Hn.out.cell 0
                      have n1 : Y2.cell? ⟨y2.heap.size + 1, 1, none⟩ = some (.int .i64 d) := Hn.out.cell 1
                      have n2 : Y2.cell? ⟨y2.heap.size + 1, 2, none⟩ = some (.slice (some ⟨s3, 0, none⟩) N N) := Hn.out.cell 2
                      replace Hb := Lib.hid (bnext Hb.out hbn); clear hbn
                      go_wp2_with fail
                      refine (split_raw V D v' d' hv2.out hd2.out a' cap' N' raws' HN'.out cs' Hcs'.out I J i j HIi.out HJj.out 192 _ Hck'.out HIV.out HJV.out HIJ.out Hfair'.out.fit (by decide) HG.out HT.out).mono ?_
                      rintro e y3 ⟨r4, s4, rfl, hat, hat2, hbn⟩
                      clear f0 f1 f2
                      clear g0 g1 g2
                      clear p0 p1 p2
                      clear l0 l1 l2
                      clear z0 z1 z2
                      clear m0 m1 m2
                      clear n0 n1 n2
                      replace Hf := Lib.hid (Hf.out.below hbn)
                      replace Hg := Lib.hid (Hg.out.below hbn)
                      replace HA := Lib.hid (HA.out.below hbn)
                      replace HG := Lib.hid (HG.out.below hbn)
                      replace HT := Lib.hid (HT.out.below hbn)
                      replace HP := Lib.hid (HP.out.below hbn)
                      replace Hp := Lib.hid (Hp.out.below hbn)
                      replace HU := Lib.hid (HU.out.below hbn)
                      replace Hl := Lib.hid (Hl.out.below hbn)
                      replace HS := Lib.hid (HS.out.below hbn)
                      replace Hz := Lib.hid (Hz.out.below hbn)
                      replace HS1 := Lib.hid (HS1.out.below hbn)
                      replace Hm := Lib.hid (Hm.out.below hbn)
                      replace Hn := Lib.hid (Hn.out.below hbn)
                      have f0 : y3.cell? ⟨w.heap.size, 0, none⟩ = some (.int .i64 v) := Hf.out.cell 0
                      have f1 : y3.cell? ⟨w.heap.size, 1, none⟩ = some (.int .i64 d) := Hf.out.cell 1
                      have f2 : y3.cell? ⟨w.heap.size, 2, none⟩ = some (.slice a N cap) := Hf.out.cell 2
                      have g0 : y3.cell? ⟨w.heap.size + 1, 0, none⟩ = some (.int .i64 v') := Hg.out.cell 0
                      have g1 : y3.cell? ⟨w.heap.size + 1, 1, none⟩ = some (.int .i64 d') := Hg.out.cell 1
                      have g2 : y3.cell? ⟨w.heap.size + 1, 2, none⟩ = some (.slice a' N' cap') := Hg.out.cell 2
                      have p0 : y3.cell? ⟨w3.heap.size, 0, none⟩ = some (.int .i64 v) := Hp.out.cell 0
                      have p1 : y3.cell? ⟨w3.heap.size, 1, none⟩ = some (.int .i64 d) := Hp.out.cell 1
                      have p2 : y3.cell? ⟨w3.heap.size, 2, none⟩ = some (.slice (some ⟨r, 0, none⟩) N N) := Hp.out.cell 2
                      have l0 : y3.cell? ⟨w4.heap.size, 0, none⟩ = some (.int .i64 v) := Hl.out.cell 0
                      have l1 : y3.cell? ⟨w4.heap.size, 1, none⟩ = some (.int .i64 d1) := Hl.out.cell 1
                      have l2 : y3.cell? ⟨w4.heap.size, 2, none⟩ = some (.slice (some ⟨u, 0, none⟩) M M) := Hl.out.cell 2
                      have z0 : y3.cell? ⟨y1.heap.size, 0, none⟩ = some (.int .i64 v) := Hz.out.cell 0
                      have z1 : y3.cell? ⟨y1.heap.size, 1, none⟩ = some (.int .i64 d) := Hz.out.cell 1
                      have z2 : y3.cell? ⟨y1.heap.size, 2, none⟩ = some (.slice a2 N cap2) := Hz.out.cell 2
                      have m0 : y3.cell? ⟨y2.heap.size, 0, none⟩ = some (.int .i64 v) := Hm.out.cell 0
                      have m1 : y3.cell? ⟨y2.heap.size, 1, none⟩ = some (.int .i64 d) := Hm.out.cell 1
                      have m2 : y3.cell? ⟨y2.heap.size, 2, none⟩ = some (.slice (some ⟨r3, 0, none⟩) N N) := Hm.out.cell 2
                      have n0 : y3.cell? ⟨y2.heap.size + 1, 0, none⟩ = some (.int .i64 v) := Hn.out.cell 0
                      have n1 : y3.cell? ⟨y2.heap.size + 1, 1, none⟩ = some (.int .i64 d) := Hn.out.cell 1
                      have n2 : y3.cell? ⟨y2.heap.size + 1, 2, none⟩ = some (.slice (some ⟨s3, 0, none⟩) N N) := Hn.out.cell 2
                      replace Hb := Lib.hid (bnext Hb.out hbn); clear hbn
                      have HT1 : Hid (At y3 (some ⟨r4, 0, none⟩) (dC (halfL V D I J cs'))) := hat
                      clear hat hat2
                      have lz_f_Y3 : w.heap.size < y3.heap.size := Hf.out.lt
                      have lz_g_Y3 : w.heap.size + 1 < y3.heap.size := Hg.out.lt
                      have lz_p_Y3 : w3.heap.size < y3.heap.size := Hp.out.lt
                      have lz_l_Y3 : w4.heap.size < y3.heap.size := Hl.out.lt
                      have lz_z_Y3 : y1.heap.size < y3.heap.size := Hz.out.lt
                      have lz_m_Y3 : y2.heap.size < y3.heap.size := Hm.out.lt
                      have lz_n_Y3 : y2.heap.size + 1 < y3.heap.size := Hn.out.lt
                      go_wp2_with fail
                      first | refine wp_world (fun Y3 => Blk Y3 (y3.heap.size) 24 [.int .i64 v', .int .i64 d', .slice (some ⟨r4, 0, none⟩) N' N'] ∧ Blk Y3 (y3.heap.size + 1) 24 [.int .i64 v', .int .i64 d', .slice (some ⟨s4, 0, none⟩) N' N'] ∧ Below y3.heap.size y3 Y3) ?hR ?_ | refine calls_world (fun Y3 => Blk Y3 (y3.heap.size) 24 [.int .i64 v', .int .i64 d', .slice (some ⟨r4, 0, none⟩) N' N'] ∧ Blk Y3 (y3.heap.size + 1) 24 [.int .i64 v', .int .i64 d', .slice (some ⟨s4, 0, none⟩) N' N'] ∧ Below y3.heap.size y3 Y3) ?hR ?_
                      case hR => exact ⟨((Blk.newAt y3 _ _ (b := y3.heap.size) rfl).alloc _), (Blk.newAt (y3.alloc _) _ _ (b := y3.heap.size + 1) (by simp)), (((Below.refl _ _).alloc (Nat.le_refl _) _).alloc (by simp <;> omega) _)⟩
                      rintro Y3 ⟨qt, qo, hbn⟩
                      have Ht := Lib.hid qt; clear qt
                      have Ho := Lib.hid qo; clear qo
                      clear f0 f1 f2
                      replace Hf := Lib.hid (Hf.out.below hbn)
                      have f0 : Y3.cell? ⟨w.heap.size, 0, none⟩ = some (.int .i64 v) := Hf.out.cell 0
                      have f1 : Y3.cell? ⟨w.heap.size, 1, none⟩ = some (.int .i64 d) := Hf.out.cell 1
                      have f2 : Y3.cell? ⟨w.heap.size, 2, none⟩ = some (.slice a N cap) := Hf.out.cell 2
                      clear g0 g1 g2
                      replace Hg := Lib.hid (Hg.out.below hbn)
                      have g0 : Y3.cell? ⟨w.heap.size + 1, 0, none⟩ = some (.int .i64 v') := Hg.out.cell 0
                      have g1 : Y3.cell? ⟨w.heap.size + 1, 1, none⟩ = some (.int .i64 d') := Hg.out.cell 1
                      have g2 : Y3.cell? ⟨w.heap.size + 1, 2, none⟩ = some (.slice a' N' cap') := Hg.out.cell 2
                      replace HA := Lib.hid (HA.out.below hbn)
                      replace HG := Lib.hid (HG.out.below hbn)
                      replace HT := Lib.hid (HT.out.below hbn)
                      replace HP := Lib.hid (HP.out.below hbn)
                      clear p0 p1 p2
                      replace Hp := Lib.hid (Hp.out.below hbn)
                      have p0 : Y3.cell? ⟨w3.heap.size, 0, none⟩ = some (.int .i64 v) := Hp.out.cell 0
                      have p1 : Y3.cell? ⟨w3.heap.size, 1, none⟩ = some (.int .i64 d) := Hp.out.cell 1
                      have p2 : Y3.cell? ⟨w3.heap.size, 2, none⟩ = some (.slice (some ⟨r, 0, none⟩) N N) := Hp.out.cell 2
                      replace HU := Lib.hid (HU.out.below hbn)
                      clear l0 l1 l2
                      replace Hl := Lib.hid (Hl.out.below hbn)
                      have l0 : Y3.cell? ⟨w4.heap.size, 0, none⟩ = some (.int .i64 v) := Hl.out.cell 0
                      have l1 : Y3.cell? ⟨w4.heap.size, 1, none⟩ = some (.int .i64 d1) := Hl.out.cell 1
                      have l2 : Y3.cell? ⟨w4.heap.size, 2, none⟩ = some (.slice (some ⟨u, 0, none⟩) M M) := Hl.out.cell 2
                      replace HS := Lib.hid (HS.out.below hbn)
                      clear z0 z1 z2
                      replace Hz := Lib.hid (Hz.out.below hbn)
                      have z0 : Y3.cell? ⟨y1.heap.size, 0, none⟩ = some (.int .i64 v) := Hz.out.cell 0
                      have z1 : Y3.cell? ⟨y1.heap.size, 1, none⟩ = some (.int .i64 d) := Hz.out.cell 1
                      have z2 : Y3.cell? ⟨y1.heap.size, 2, none⟩ = some (.slice a2 N cap2) := Hz.out.cell 2
                      replace HS1 := Lib.hid (HS1.out.below hbn)
                      clear m0 m1 m2
                      replace Hm := Lib.hid (Hm.out.below hbn)
                      have m0 : Y3.cell? ⟨y2.heap.size, 0, none⟩ = some (.int .i64 v) := Hm.out.cell 0
                      have m1 : Y3.cell? ⟨y2.heap.size, 1, none⟩ = some (.int .i64 d) := Hm.out.cell 1
                      have m2 : Y3.cell? ⟨y2.heap.size, 2, none⟩ = some (.slice (some ⟨r3, 0, none⟩) N N) := Hm.out.cell 2
                      clear n0 n1 n2
                      replace Hn := Lib.hid (Hn.out.below hbn)
                      have n0 : Y3.cell? ⟨y2.heap.size + 1, 0, none⟩ = some (.int .i64 v) := Hn.out.cell 0
                      have n1 : Y3.cell? ⟨y2.heap.size + 1, 1, none⟩ = some (.int .i64 d) := Hn.out.cell 1
                      have n2 : Y3.cell? ⟨y2.heap.size + 1, 2, none⟩ = some (.slice (some ⟨s3, 0, none⟩) N N) := Hn.out.cell 2
                      replace HT1 := Lib.hid (HT1.out.below hbn)
                      have t0 : Y3.cell? ⟨y3.heap.size, 0, none⟩ = some (.int .i64 v') := Ht.out.cell 0
                      have t1 : Y3.cell? ⟨y3.heap.size, 1, none⟩ = some (.int .i64 d') := Ht.out.cell 1
                      have t2 : Y3.cell? ⟨y3.heap.size, 2, none⟩ = some (.slice (some ⟨r4, 0, none⟩) N' N') := Ht.out.cell 2
                      have o0 : Y3.cell? ⟨y3.heap.size + 1, 0, none⟩ = some (.int .i64 v') := Ho.out.cell 0
                      have o1 : Y3.cell? ⟨y3.heap.size + 1, 1, none⟩ = some (.int .i64 d') := Ho.out.cell 1
                      have o2 : Y3.cell? ⟨y3.heap.size + 1, 2, none⟩ = some (.slice (some ⟨s4, 0, none⟩) N' N') := Ho.out.cell 2
                      replace Hb := Lib.hid (bnext Hb.out hbn); clear hbn
                      go_wp2_with fail
                      refine (add_dy V D v d v' d' HVv.out HDd.out hv2.out hd2.out (some ⟨r, 0, none⟩) (some ⟨r4, 0, none⟩) N N' N N' (halfL V D I J cs) (halfL V D I J cs') Hl1.out Hl6.out hNN.out 10986 _ Hck.out Hp1.out Hp6.out (by decide) HP.out HT1.out HT.out).mono ?_
                      rintro e y4 ⟨a5, cap5, rfl, hat, hbn⟩
                      clear f0 f1 f2
                      clear g0 g1 g2
                      clear p0 p1 p2
                      clear l0 l1 l2
                      clear z0 z1 z2
                      clear m0 m1 m2
                      clear n0 n1 n2
                      clear t0 t1 t2
                      clear o0 o1 o2
                      replace Hf := Lib.hid (Hf.out.below hbn)
                      replace Hg := Lib.hid (Hg.out.below hbn)
                      replace HA := Lib.hid (HA.out.below hbn)
                      replace HG := Lib.hid (HG.out.below hbn)
                      replace HT := Lib.hid (HT.out.below hbn)
                      replace HP := Lib.hid (HP.out.below hbn)
                      replace Hp := Lib.hid (Hp.out.below hbn)
                      replace HU := Lib.hid (HU.out.below hbn)
                      replace Hl := Lib.hid (Hl.out.below hbn)
                      replace HS := Lib.hid (HS.out.below hbn)
                      replace Hz := Lib.hid (Hz.out.below hbn)
                      replace HS1 := Lib.hid (HS1.out.below hbn)
                      replace Hm := Lib.hid (Hm.out.below hbn)
                      replace Hn := Lib.hid (Hn.out.below hbn)
                      replace HT1 := Lib.hid (HT1.out.below hbn)
                      replace Ht := Lib.hid (Ht.out.below hbn)
                      replace Ho := Lib.hid (Ho.out.below hbn)
                      have f0 : y4.cell? ⟨w.heap.size, 0, none⟩ = some (.int .i64 v) := Hf.out.cell 0
                      have f1 : y4.cell? ⟨w.heap.size, 1, none⟩ = some (.int .i64 d) := Hf.out.cell 1
                      have f2 : y4.cell? ⟨w.heap.size, 2, none⟩ = some (.slice a N cap) := Hf.out.cell 2
                      have g0 : y4.cell? ⟨w.heap.size + 1, 0, none⟩ = some (.int .i64 v') := Hg.out.cell 0
                      have g1 : y4.cell? ⟨w.heap.size + 1, 1, none⟩ = some (.int .i64 d') := Hg.out.cell 1
                      have g2 : y4.cell? ⟨w.heap.size + 1, 2, none⟩ = some (.slice a' N' cap') := Hg.out.cell 2
                      have p0 : y4.cell? ⟨w3.heap.size, 0, none⟩ = some (.int .i64 v) := Hp.out.cell 0
                      have p1 : y4.cell? ⟨w3.heap.size, 1, none⟩ = some (.int .i64 d) := Hp.out.cell 1
                      have p2 : y4.cell? ⟨w3.heap.size, 2, none⟩ = some (.slice (some ⟨r, 0, none⟩) N N) := Hp.out.cell 2
                      have l0 : y4.cell? ⟨w4.heap.size, 0, none⟩ = some (.int .i64 v) := Hl.out.cell 0
                      have l1 : y4.cell? ⟨w4.heap.size, 1, none⟩ = some (.int .i64 d1) := Hl.out.cell 1
                      have l2 : y4.cell? ⟨w4.heap.size, 2, none⟩ = some (.slice (some ⟨u, 0, none⟩) M M) := Hl.out.cell 2
                      have z0 : y4.cell? ⟨y1.heap.size, 0, none⟩ = some (.int .i64 v) := Hz.out.cell 0
                      have z1 : y4.cell? ⟨y1.heap.size, 1, none⟩ = some (.int .i64 d) := Hz.out.cell 1
                      have z2 : y4.cell? ⟨y1.heap.size, 2, none⟩ = some (.slice a2 N cap2) := Hz.out.cell 2
                      have m0 : y4.cell? ⟨y2.heap.size, 0, none⟩ = some (.int .i64 v) := Hm.out.cell 0
                      have m1 : y4.cell? ⟨y2.heap.size, 1, none⟩ = some (.int .i64 d) := Hm.out.cell 1
                      have m2 : y4.cell? ⟨y2.heap.size, 2, none⟩ = some (.slice (some ⟨r3, 0, none⟩) N N) := Hm.out.cell 2
                      have n0 : y4.cell? ⟨y2.heap.size + 1, 0, none⟩ = some (.int .i64 v) := Hn.out.cell 0
                      have n1 : y4.cell? ⟨y2.heap.size + 1, 1, none⟩ = some (.int .i64 d) := Hn.out.cell 1
                      have n2 : y4.cell? ⟨y2.heap.size + 1, 2, none⟩ = some (.slice (some ⟨s3, 0, none⟩) N N) := Hn.out.cell 2
                      have t0 : y4.cell? ⟨y3.heap.size, 0, none⟩ = some (.int .i64 v') := Ht.out.cell 0
                      have t1 : y4.cell? ⟨y3.heap.size, 1, none⟩ = some (.int .i64 d') := Ht.out.cell 1
                      have t2 : y4.cell? ⟨y3.heap.size, 2, none⟩ = some (.slice (some ⟨r4, 0, none⟩) N' N') := Ht.out.cell 2
                      have o0 : y4.cell? ⟨y3.heap.size + 1, 0, none⟩ = some (.int .i64 v') := Ho.out.cell 0
                      have o1 : y4.cell? ⟨y3.heap.size + 1, 1, none⟩ = some (.int .i64 d') := Ho.out.cell 1
                      have o2 : y4.cell? ⟨y3.heap.size + 1, 2, none⟩ = some (.slice (some ⟨s4, 0, none⟩) N' N') := Ho.out.cell 2
                      replace Hb := Lib.hid (bnext Hb.out hbn); clear hbn
                      have HS2 : Hid (At y4 a5 (dC (List.zipWith (· + ·) (halfL V D I J cs) (halfL V D I J cs')))) := hat
                      clear hat
                      have lz_f_Y4 : w.heap.size < y4.heap.size := Hf.out.lt
                      have lz_g_Y4 : w.heap.size + 1 < y4.heap.size := Hg.out.lt
                      have lz_p_Y4 : w3.heap.size < y4.heap.size := Hp.out.lt
                      have lz_l_Y4 : w4.heap.size < y4.heap.size := Hl.out.lt
                      have lz_z_Y4 : y1.heap.size < y4.heap.size := Hz.out.lt
                      have lz_m_Y4 : y2.heap.size < y4.heap.size := Hm.out.lt
                      have lz_n_Y4 : y2.heap.size + 1 < y4.heap.size := Hn.out.lt
                      have lz_t_Y4 : y3.heap.size < y4.heap.size := Ht.out.lt
                      have lz_o_Y4 : y3.heap.size + 1 < y4.heap.size := Ho.out.lt
                      go_wp2_with fail
                      first | refine wp_world (fun Y4 => Blk Y4 (y4.heap.size) 24 [.int .i64 v, .int .i64 d, .slice a5 N cap5] ∧ Below y4.heap.size y4 Y4) ?hR ?_ | refine calls_world (fun Y4 => Blk Y4 (y4.heap.size) 24 [.int .i64 v, .int .i64 d, .slice a5 N cap5] ∧ Below y4.heap.size y4 Y4) ?hR ?_
                      case hR => exact ⟨(Blk.newAt y4 _ _ (b := y4.heap.size) rfl), ((Below.refl _ _).alloc (Nat.le_refl _) _)⟩
                      rintro Y4 ⟨qh, hbn⟩
                      have Hh := Lib.hid qh; clear qh
                      clear f0 f1 f2
                      replace Hf := Lib.hid (Hf.out.below hbn)
                      have f0 : Y4.cell? ⟨w.heap.size, 0, none⟩ = some (.int .i64 v) := Hf.out.cell 0
                      have f1 : Y4.cell? ⟨w.heap.size, 1, none⟩ = some (.int .i64 d) := Hf.out.cell 1
                      have f2 : Y4.cell? ⟨w.heap.size, 2, none⟩ = some (.slice a N cap) := Hf.out.cell 2
                      clear g0 g1 g2
                      replace Hg := Lib.hid (Hg.out.below hbn)
                      have g0 : Y4.cell? ⟨w.heap.size + 1, 0, none⟩ = some (.int .i64 v') := Hg.out.cell 0
                      have g1 : Y4.cell? ⟨w.heap.size + 1, 1, none⟩ = some (.int .i64 d') := Hg.out.cell 1
                      have g2 : Y4.cell? ⟨w.heap.size + 1, 2, none⟩ = some (.slice a' N' cap') := Hg.out.cell 2
                      replace HA := Lib.hid (HA.out.below hbn)
                      replace HG := Lib.hid (HG.out.below hbn)
                      replace HT := Lib.hid (HT.out.below hbn)
                      replace HP := Lib.hid (HP.out.below hbn)
                      clear p0 p1 p2
                      replace Hp := Lib.hid (Hp.out.below hbn)
                      have p0 : Y4.cell? ⟨w3.heap.size, 0, none⟩ = some (.int .i64 v) := Hp.out.cell 0
                      have p1 : Y4.cell? ⟨w3.heap.size, 1, none⟩ = some (.int .i64 d) := Hp.out.cell 1
                      have p2 : Y4.cell? ⟨w3.heap.size, 2, none⟩ = some (.slice (some ⟨r, 0, none⟩) N N) := Hp.out.cell 2
                      replace HU := Lib.hid (HU.out.below hbn)
                      clear l0 l1 l2
                      replace Hl := Lib.hid (Hl.out.below hbn)
                      have l0 : Y4.cell? ⟨w4.heap.size, 0, none⟩ = some (.int .i64 v) := Hl.out.cell 0
                      have l1 : Y4.cell? ⟨w4.heap.size, 1, none⟩ = some (.int .i64 d1) := Hl.out.cell 1
                      have l2 : Y4.cell? ⟨w4.heap.size, 2, none⟩ = some (.slice (some ⟨u, 0, none⟩) M M) := Hl.out.cell 2
                      replace HS := Lib.hid (HS.out.below hbn)
                      clear z0 z1 z2
                      replace Hz := Lib.hid (Hz.out.below hbn)
                      have z0 : Y4.cell? ⟨y1.heap.size, 0, none⟩ = some (.int .i64 v) := Hz.out.cell 0
                      have z1 : Y4.cell? ⟨y1.heap.size, 1, none⟩ = some (.int .i64 d) := Hz.out.cell 1
                      have z2 : Y4.cell? ⟨y1.heap.size, 2, none⟩ = some (.slice a2 N cap2) := Hz.out.cell 2
                      replace HS1 := Lib.hid (HS1.out.below hbn)
                      clear m0 m1 m2
                      replace Hm := Lib.hid (Hm.out.below hbn)
                      have m0 : Y4.cell? ⟨y2.heap.size, 0, none⟩ = some (.int .i64 v) := Hm.out.cell 0
                      have m1 : Y4.cell? ⟨y2.heap.size, 1, none⟩ = some (.int .i64 d) := Hm.out.cell 1
                      have m2 : Y4.cell? ⟨y2.heap.size, 2, none⟩ = some (.slice (some ⟨r3, 0, none⟩) N N) := Hm.out.cell 2
                      clear n0 n1 n2
                      replace Hn := Lib.hid (Hn.out.below hbn)
                      have n0 : Y4.cell? ⟨y2.heap.size + 1, 0, none⟩ = some (.int .i64 v) := Hn.out.cell 0
                      have n1 : Y4.cell? ⟨y2.heap.size + 1, 1, none⟩ = some (.int .i64 d) := Hn.out.cell 1
                      have n2 : Y4.cell? ⟨y2.heap.size + 1, 2, none⟩ = some (.slice (some ⟨s3, 0, none⟩) N N) := Hn.out.cell 2
                      replace HT1 := Lib.hid (HT1.out.below hbn)
                      clear t0 t1 t2
                      replace Ht := Lib.hid (Ht.out.below hbn)
                      have t0 : Y4.cell? ⟨y3.heap.size, 0, none⟩ = some (.int .i64 v') := Ht.out.cell 0
                      have t1 : Y4.cell? ⟨y3.heap.size, 1, none⟩ = some (.int .i64 d') := Ht.out.cell 1
                      have t2 : Y4.cell? ⟨y3.heap.size, 2, none⟩ = some (.slice (some ⟨r4, 0, none⟩) N' N') := Ht.out.cell 2
                      clear o0 o1 o2
                      replace Ho := Lib.hid (Ho.out.below hbn)
                      have o0 : Y4.cell? ⟨y3.heap.size + 1, 0, none⟩ = some (.int .i64 v') := Ho.out.cell 0
                      have o1 : Y4.cell? ⟨y3.heap.size + 1, 1, none⟩ = some (.int .i64 d') := Ho.out.cell 1
                      have o2 : Y4.cell? ⟨y3.heap.size + 1, 2, none⟩ = some (.slice (some ⟨s4, 0, none⟩) N' N') := Ho.out.cell 2
                      replace HS2 := Lib.hid (HS2.out.below hbn)
                      have h0 : Y4.cell? ⟨y4.heap.size, 0, none⟩ = some (.int .i64 v) := Hh.out.cell 0
                      have h1 : Y4.cell? ⟨y4.heap.size, 1, none⟩ = some (.int .i64 d) := Hh.out.cell 1
                      have h2 : Y4.cell? ⟨y4.heap.size, 2, none⟩ = some (.slice a5 N cap5) := Hh.out.cell 2
                      replace Hb := Lib.hid (bnext Hb.out hbn); clear hbn
                      go_wp2_with fail
                      refine (same_dy v d (some ⟨r3, 0, none⟩) a5 N N cap5 _ _ Hq3.out _ Hl7.out (Nat.le_trans H512.out (by decide)) HS1.out HS2.out).mono ?_
                      rintro e y5 ⟨rfl, hbn⟩
                      clear f0 f1 f2
                      clear g0 g1 g2
                      clear p0 p1 p2
                      clear l0 l1 l2
                      clear z0 z1 z2
                      clear m0 m1 m2
                      clear n0 n1 n2
                      clear t0 t1 t2
                      clear o0 o1 o2
                      clear h0 h1 h2
                      replace Hf := Lib.hid (Hf.out.below hbn)
                      replace Hg := Lib.hid (Hg.out.below hbn)
                      replace HA := Lib.hid (HA.out.below hbn)
                      replace HG := Lib.hid (HG.out.below hbn)
                      replace HT := Lib.hid (HT.out.below hbn)
                      replace HP := Lib.hid (HP.out.below hbn)
                      replace Hp := Lib.hid (Hp.out.below hbn)
                      replace HU := Lib.hid (HU.out.below hbn)
                      replace Hl := Lib.hid (Hl.out.below hbn)
                      replace HS := Lib.hid (HS.out.below hbn)
                      replace Hz := Lib.hid (Hz.out.below hbn)
                      replace HS1 := Lib.hid (HS1.out.below hbn)
                      replace Hm := Lib.hid (Hm.out.below hbn)
                      replace Hn := Lib.hid (Hn.out.below hbn)
                      replace HT1 := Lib.hid (HT1.out.below hbn)
                      replace Ht := Lib.hid (Ht.out.below hbn)
                      replace Ho := Lib.hid (Ho.out.below hbn)
                      replace HS2 := Lib.hid (HS2.out.below hbn)
                      replace Hh := Lib.hid (Hh.out.below hbn)
                      have f0 : y5.cell? ⟨w.heap.size, 0, none⟩ = some (.int .i64 v) := Hf.out.cell 0
                      have f1 : y5.cell? ⟨w.heap.size, 1, none⟩ = some (.int .i64 d) := Hf.out.cell 1
                      have f2 : y5.cell? ⟨w.heap.size, 2, none⟩ = some (.slice a N cap) := Hf.out.cell 2
                      have g0 : y5.cell? ⟨w.heap.size + 1, 0, none⟩ = some (.int .i64 v') := Hg.out.cell 0
                      have g1 : y5.cell? ⟨w.heap.size + 1, 1, none⟩ = some (.int .i64 d') := Hg.out.cell 1
                      have g2 : y5.cell? ⟨w.heap.size + 1, 2, none⟩ = some (.slice a' N' cap') := Hg.out.cell 2
                      have p0 : y5.cell? ⟨w3.heap.size, 0, none⟩ = some (.int .i64 v) := Hp.out.cell 0
                      have p1 : y5.cell? ⟨w3.heap.size, 1, none⟩ = some (.int .i64 d) := Hp.out.cell 1
                      have p2 : y5.cell? ⟨w3.heap.size, 2, none⟩ = some (.slice (some ⟨r, 0, none⟩) N N) := Hp.out.cell 2
                      have l0 : y5.cell? ⟨w4.heap.size, 0, none⟩ = some (.int .i64 v) := Hl.out.cell 0
                      have l1 : y5.cell? ⟨w4.heap.size, 1, none⟩ = some (.int .i64 d1) := Hl.out.cell 1
                      have l2 : y5.cell? ⟨w4.heap.size, 2, none⟩ = some (.slice (some ⟨u, 0, none⟩) M M) := Hl.out.cell 2
                      have z0 : y5.cell? ⟨y1.heap.size, 0, none⟩ = some (.int .i64 v) := Hz.out.cell 0
                      have z1 : y5.cell? ⟨y1.heap.size, 1, none⟩ = some (.int .i64 d) := Hz.out.cell 1
                      have z2 : y5.cell? ⟨y1.heap.size, 2, none⟩ = some (.slice a2 N cap2) := Hz.out.cell 2
                      have m0 : y5.cell? ⟨y2.heap.size, 0, none⟩ = some (.int .i64 v) := Hm.out.cell 0
                      have m1 : y5.cell? ⟨y2.heap.size, 1, none⟩ = some (.int .i64 d) := Hm.out.cell 1
                      have m2 : y5.cell? ⟨y2.heap.size, 2, none⟩ = some (.slice (some ⟨r3, 0, none⟩) N N) := Hm.out.cell 2
                      have n0 : y5.cell? ⟨y2.heap.size + 1, 0, none⟩ = some (.int .i64 v) := Hn.out.cell 0
                      have n1 : y5.cell? ⟨y2.heap.size + 1, 1, none⟩ = some (.int .i64 d) := Hn.out.cell 1
                      have n2 : y5.cell? ⟨y2.heap.size + 1, 2, none⟩ = some (.slice (some ⟨s3, 0, none⟩) N N) := Hn.out.cell 2
                      have t0 : y5.cell? ⟨y3.heap.size, 0, none⟩ = some (.int .i64 v') := Ht.out.cell 0
                      have t1 : y5.cell? ⟨y3.heap.size, 1, none⟩ = some (.int .i64 d') := Ht.out.cell 1
                      have t2 : y5.cell? ⟨y3.heap.size, 2, none⟩ = some (.slice (some ⟨r4, 0, none⟩) N' N') := Ht.out.cell 2
                      have o0 : y5.cell? ⟨y3.heap.size + 1, 0, none⟩ = some (.int .i64 v') := Ho.out.cell 0
                      have o1 : y5.cell? ⟨y3.heap.size + 1, 1, none⟩ = some (.int .i64 d') := Ho.out.cell 1
                      have o2 : y5.cell? ⟨y3.heap.size + 1, 2, none⟩ = some (.slice (some ⟨s4, 0, none⟩) N' N') := Ho.out.cell 2
                      have h0 : y5.cell? ⟨y4.heap.size, 0, none⟩ = some (.int .i64 v) := Hh.out.cell 0
                      have h1 : y5.cell? ⟨y4.heap.size, 1, none⟩ = some (.int .i64 d) := Hh.out.cell 1
                      have h2 : y5.cell? ⟨y4.heap.size, 2, none⟩ = some (.slice a5 N cap5) := Hh.out.cell 2
                      replace Hb := Lib.hid (bnext Hb.out hbn); clear hbn
                      go_wp2_with fail
                      refine (awake_any _ HT.out).mono ?_
                      rintro e y6 ⟨rfl, hbn⟩
                      clear f0 f1 f2
                      clear g0 g1 g2
                      clear p0 p1 p2
                      clear l0 l1 l2
                      clear z0 z1 z2
                      clear m0 m1 m2
                      clear n0 n1 n2
                      clear t0 t1 t2
                      clear o0 o1 o2
                      clear h0 h1 h2
                      replace Hf := Lib.hid (Hf.out.below hbn)
                      replace Hg := Lib.hid (Hg.out.below hbn)
                      replace HA := Lib.hid (HA.out.below hbn)
                      replace HG := Lib.hid (HG.out.below hbn)
                      replace HT := Lib.hid (HT.out.below hbn)
                      replace HP := Lib.hid (HP.out.below hbn)
                      replace Hp := Lib.hid (Hp.out.below hbn)
                      replace HU := Lib.hid (HU.out.below hbn)
                      replace Hl := Lib.hid (Hl.out.below hbn)
                      replace HS := Lib.hid (HS.out.below hbn)
                      replace Hz := Lib.hid (Hz.out.below hbn)
                      replace HS1 := Lib.hid (HS1.out.below hbn)
                      replace Hm := Lib.hid (Hm.out.below hbn)
                      replace Hn := Lib.hid (Hn.out.below hbn)
                      replace HT1 := Lib.hid (HT1.out.below hbn)
                      replace Ht := Lib.hid (Ht.out.below hbn)
                      replace Ho := Lib.hid (Ho.out.below hbn)
                      replace HS2 := Lib.hid (HS2.out.below hbn)
                      replace Hh := Lib.hid (Hh.out.below hbn)
                      have f0 : y6.cell? ⟨w.heap.size, 0, none⟩ = some (.int .i64 v) := Hf.out.cell 0
                      have f1 : y6.cell? ⟨w.heap.size, 1, none⟩ = some (.int .i64 d) := Hf.out.cell 1
                      have f2 : y6.cell? ⟨w.heap.size, 2, none⟩ = some (.slice a N cap) := Hf.out.cell 2
                      have g0 : y6.cell? ⟨w.heap.size + 1, 0, none⟩ = some (.int .i64 v') := Hg.out.cell 0
                      have g1 : y6.cell? ⟨w.heap.size + 1, 1, none⟩ = some (.int .i64 d') := Hg.out.cell 1
                      have g2 : y6.cell? ⟨w.heap.size + 1, 2, none⟩ = some (.slice a' N' cap') := Hg.out.cell 2
                      have p0 : y6.cell? ⟨w3.heap.size, 0, none⟩ = some (.int .i64 v) := Hp.out.cell 0
                      have p1 : y6.cell? ⟨w3.heap.size, 1, none⟩ = some (.int .i64 d) := Hp.out.cell 1
                      have p2 : y6.cell? ⟨w3.heap.size, 2, none⟩ = some (.slice (some ⟨r, 0, none⟩) N N) := Hp.out.cell 2
                      have l0 : y6.cell? ⟨w4.heap.size, 0, none⟩ = some (.int .i64 v) := Hl.out.cell 0
                      have l1 : y6.cell? ⟨w4.heap.size, 1, none⟩ = some (.int .i64 d1) := Hl.out.cell 1
                      have l2 : y6.cell? ⟨w4.heap.size, 2, none⟩ = some (.slice (some ⟨u, 0, none⟩) M M) := Hl.out.cell 2
                      have z0 : y6.cell? ⟨y1.heap.size, 0, none⟩ = some (.int .i64 v) := Hz.out.cell 0
                      have z1 : y6.cell? ⟨y1.heap.size, 1, none⟩ = some (.int .i64 d) := Hz.out.cell 1
                      have z2 : y6.cell? ⟨y1.heap.size, 2, none⟩ = some (.slice a2 N cap2) := Hz.out.cell 2
                      have m0 : y6.cell? ⟨y2.heap.size, 0, none⟩ = some (.int .i64 v) := Hm.out.cell 0
                      have m1 : y6.cell? ⟨y2.heap.size, 1, none⟩ = some (.int .i64 d) := Hm.out.cell 1
                      have m2 : y6.cell? ⟨y2.heap.size, 2, none⟩ = some (.slice (some ⟨r3, 0, none⟩) N N) := Hm.out.cell 2
                      have n0 : y6.cell? ⟨y2.heap.size + 1, 0, none⟩ = some (.int .i64 v) := Hn.out.cell 0
                      have n1 : y6.cell? ⟨y2.heap.size + 1, 1, none⟩ = some (.int .i64 d) := Hn.out.cell 1
                      have n2 : y6.cell? ⟨y2.heap.size + 1, 2, none⟩ = some (.slice (some ⟨s3, 0, none⟩) N N) := Hn.out.cell 2
                      have t0 : y6.cell? ⟨y3.heap.size, 0, none⟩ = some (.int .i64 v') := Ht.out.cell 0
                      have t1 : y6.cell? ⟨y3.heap.size, 1, none⟩ = some (.int .i64 d') := Ht.out.cell 1
                      have t2 : y6.cell? ⟨y3.heap.size, 2, none⟩ = some (.slice (some ⟨r4, 0, none⟩) N' N') := Ht.out.cell 2
                      have o0 : y6.cell? ⟨y3.heap.size + 1, 0, none⟩ = some (.int .i64 v') := Ho.out.cell 0
                      have o1 : y6.cell? ⟨y3.heap.size + 1, 1, none⟩ = some (.int .i64 d') := Ho.out.cell 1
                      have o2 : y6.cell? ⟨y3.heap.size + 1, 2, none⟩ = some (.slice (some ⟨s4, 0, none⟩) N' N') := Ho.out.cell 2
                      have h0 : y6.cell? ⟨y4.heap.size, 0, none⟩ = some (.int .i64 v) := Hh.out.cell 0
                      have h1 : y6.cell? ⟨y4.heap.size, 1, none⟩ = some (.int .i64 d) := Hh.out.cell 1
                      have h2 : y6.cell? ⟨y4.heap.size, 2, none⟩ = some (.slice a5 N cap5) := Hh.out.cell 2
                      replace Hb := Lib.hid (bnext Hb.out hbn); clear hbn
                      go_wp2
                      refine bodyPost_ret (v := .bool true) (by simp [results, Tryz.results3, go_sem]) rfl ⟨rfl, ?_⟩
                      (repeat first | exact Hb.out | (refine Below.setCell ?_ (by have := Hb.out.size; first | (dsimp only; omega) | (show _ ≤ _; omega) | (simp <;> omega)) _) | (refine Below.alloc ?_ (by have := Hb.out.size; simp <;> omega) _) | refine Below.drew ?_)
                    · have Hck' := Lib.hid hc'; have He := Lib.hid he
                      clear hc' he
                      go_wp2_with fail
                      refine (add_arg v d a N cap v' d' a' N' cap' _ Hck.out Hck'.out (by have := He.out; omega)).mono ?_
                      rintro e y1 ⟨rfl, hbn⟩
                      clear f0 f1 f2
                      clear g0 g1 g2
                      clear p0 p1 p2
                      clear l0 l1 l2
                      replace Hf := Lib.hid (Hf.out.below hbn)
                      replace Hg := Lib.hid (Hg.out.below hbn)
                      replace HA := Lib.hid (HA.out.below hbn)
                      replace HG := Lib.hid (HG.out.below hbn)
                      replace HT := Lib.hid (HT.out.below hbn)
                      replace HP := Lib.hid (HP.out.below hbn)
                      replace Hp := Lib.hid (Hp.out.below hbn)
                      replace HU := Lib.hid (HU.out.below hbn)
                      replace Hl := Lib.hid (Hl.out.below hbn)
                      have f0 : y1.cell? ⟨w.heap.size, 0, none⟩ = some (.int .i64 v) := Hf.out.cell 0
                      have f1 : y1.cell? ⟨w.heap.size, 1, none⟩ = some (.int .i64 d) := Hf.out.cell 1
                      have f2 : y1.cell? ⟨w.heap.size, 2, none⟩ = some (.slice a N cap) := Hf.out.cell 2
                      have g0 : y1.cell? ⟨w.heap.size + 1, 0, none⟩ = some (.int .i64 v') := Hg.out.cell 0
                      have g1 : y1.cell? ⟨w.heap.size + 1, 1, none⟩ = some (.int .i64 d') := Hg.out.cell 1
                      have g2 : y1.cell? ⟨w.heap.size + 1, 2, none⟩ = some (.slice a' N' cap') := Hg.out.cell 2
                      have p0 : y1.cell? ⟨w3.heap.size, 0, none⟩ = some (.int .i64 v) := Hp.out.cell 0
                      have p1 : y1.cell? ⟨w3.heap.size, 1, none⟩ = some (.int .i64 d) := Hp.out.cell 1
                      have p2 : y1.cell? ⟨w3.heap.size, 2, none⟩ = some (.slice (some ⟨r, 0, none⟩) N N) := Hp.out.cell 2
                      have l0 : y1.cell? ⟨w4.heap.size, 0, none⟩ = some (.int .i64 v) := Hl.out.cell 0
                      have l1 : y1.cell? ⟨w4.heap.size, 1, none⟩ = some (.int .i64 d1) := Hl.out.cell 1
                      have l2 : y1.cell? ⟨w4.heap.size, 2, none⟩ = some (.slice (some ⟨u, 0, none⟩) M M) := Hl.out.cell 2
                      replace Hb := Lib.hid (bnext Hb.out hbn); clear hbn
                      have lz_f_Y1 : w.heap.size < y1.heap.size := Hf.out.lt
                      have lz_g_Y1 : w.heap.size + 1 < y1.heap.size := Hg.out.lt
                      have lz_p_Y1 : w3.heap.size < y1.heap.size := Hp.out.lt
                      have lz_l_Y1 : w4.heap.size < y1.heap.size := Hl.out.lt
                      go_wp2_with fail
                      first | refine wp_world (fun Y1 => Below y1.heap.size y1 Y1) ?hR ?_ | refine calls_world (fun Y1 => Below y1.heap.size y1 Y1) ?hR ?_
                      case hR => (repeat first | exact Below.refl _ _ | (refine Below.setCell ?_ (by first | (dsimp only; omega) | (show _ ≤ _; omega) | (simp <;> omega)) _) | (refine Below.alloc ?_ (by simp <;> omega) _) | refine Below.drew ?_)
                      rintro Y1 hbn
                      clear f0 f1 f2
                      clear g0 g1 g2
                      clear p0 p1 p2
                      clear l0 l1 l2
                      replace Hf := Lib.hid (Hf.out.below hbn)
                      replace Hg := Lib.hid (Hg.out.below hbn)
                      replace HA := Lib.hid (HA.out.below hbn)
                      replace HG := Lib.hid (HG.out.below hbn)
                      replace HT := Lib.hid (HT.out.below hbn)
                      replace HP := Lib.hid (HP.out.below hbn)
                      replace Hp := Lib.hid (Hp.out.below hbn)
                      replace HU := Lib.hid (HU.out.below hbn)
                      replace Hl := Lib.hid (Hl.out.below hbn)
                      have f0 : Y1.cell? ⟨w.heap.size, 0, none⟩ = some (.int .i64 v) := Hf.out.cell 0
                      have f1 : Y1.cell? ⟨w.heap.size, 1, none⟩ = some (.int .i64 d) := Hf.out.cell 1
                      have f2 : Y1.cell? ⟨w.heap.size, 2, none⟩ = some (.slice a N cap) := Hf.out.cell 2
                      have g0 : Y1.cell? ⟨w.heap.size + 1, 0, none⟩ = some (.int .i64 v') := Hg.out.cell 0
                      have g1 : Y1.cell? ⟨w.heap.size + 1, 1, none⟩ = some (.int .i64 d') := Hg.out.cell 1
                      have g2 : Y1.cell? ⟨w.heap.size + 1, 2, none⟩ = some (.slice a' N' cap') := Hg.out.cell 2
                      have p0 : Y1.cell? ⟨w3.heap.size, 0, none⟩ = some (.int .i64 v) := Hp.out.cell 0
                      have p1 : Y1.cell? ⟨w3.heap.size, 1, none⟩ = some (.int .i64 d) := Hp.out.cell 1
                      have p2 : Y1.cell? ⟨w3.heap.size, 2, none⟩ = some (.slice (some ⟨r, 0, none⟩) N N) := Hp.out.cell 2
                      have l0 : Y1.cell? ⟨w4.heap.size, 0, none⟩ = some (.int .i64 v) := Hl.out.cell 0
                      have l1 : Y1.cell? ⟨w4.heap.size, 1, none⟩ = some (.int .i64 d1) := Hl.out.cell 1
                      have l2 : Y1.cell? ⟨w4.heap.size, 2, none⟩ = some (.slice (some ⟨u, 0, none⟩) M M) := Hl.out.cell 2
                      replace Hb := Lib.hid (bnext Hb.out hbn); clear hbn
                      go_wp2_with fail
                      refine (awake_any _ HT.out).mono ?_
                      rintro e y6 ⟨rfl, hbn⟩
                      clear f0 f1 f2
                      clear g0 g1 g2
                      clear p0 p1 p2
                      clear l0 l1 l2
                      replace Hf := Lib.hid (Hf.out.below hbn)
                      replace Hg := Lib.hid (Hg.out.below hbn)
                      replace HA := Lib.hid (HA.out.below hbn)
                      replace HG := Lib.hid (HG.out.below hbn)
                      replace HT := Lib.hid (HT.out.below hbn)
                      replace HP := Lib.hid (HP.out.below hbn)
                      replace Hp := Lib.hid (Hp.out.below hbn)
                      replace HU := Lib.hid (HU.out.below hbn)
                      replace Hl := Lib.hid (Hl.out.below hbn)
                      have f0 : y6.cell? ⟨w.heap.size, 0, none⟩ = some (.int .i64 v) := Hf.out.cell 0
                      have f1 : y6.cell? ⟨w.heap.size, 1, none⟩ = some (.int .i64 d) := Hf.out.cell 1
                      have f2 : y6.cell? ⟨w.heap.size, 2, none⟩ = some (.slice a N cap) := Hf.out.cell 2
                      have g0 : y6.cell? ⟨w.heap.size + 1, 0, none⟩ = some (.int .i64 v') := Hg.out.cell 0
                      have g1 : y6.cell? ⟨w.heap.size + 1, 1, none⟩ = some (.int .i64 d') := Hg.out.cell 1
                      have g2 : y6.cell? ⟨w.heap.size + 1, 2, none⟩ = some (.slice a' N' cap') := Hg.out.cell 2
                      have p0 : y6.cell? ⟨w3.heap.size, 0, none⟩ = some (.int .i64 v) := Hp.out.cell 0
                      have p1 : y6.cell? ⟨w3.heap.size, 1, none⟩ = some (.int .i64 d) := Hp.out.cell 1
                      have p2 : y6.cell? ⟨w3.heap.size, 2, none⟩ = some (.slice (some ⟨r, 0, none⟩) N N) := Hp.out.cell 2
                      have l0 : y6.cell? ⟨w4.heap.size, 0, none⟩ = some (.int .i64 v) := Hl.out.cell 0
                      have l1 : y6.cell? ⟨w4.heap.size, 1, none⟩ = some (.int .i64 d1) := Hl.out.cell 1
                      have l2 : y6.cell? ⟨w4.heap.size, 2, none⟩ = some (.slice (some ⟨u, 0, none⟩) M M) := Hl.out.cell 2
                      replace Hb := Lib.hid (bnext Hb.out hbn); clear hbn
                      go_wp2
                      refine bodyPost_ret (v := .bool true) (by simp [results, Tryz.results3, go_sem]) rfl ⟨rfl, ?_⟩
                      (repeat first | exact Hb.out | (refine Below.setCell ?_ (by have := Hb.out.size; first | (dsimp only; omega) | (show _ ≤ _; omega) | (simp <;> omega)) _) | (refine Below.alloc ?_ (by have := Hb.out.size; simp <;> omega) _) | refine Below.drew ?_)
                  · have h0 : (chk v' d' N' != 0) = true := by simpa using hc'
                    obtain ⟨c', hcd⟩ : ∃ c', chk v' d' N' = c' := ⟨_, rfl⟩
                    rw [hcd] at h0
                    have Hcd := Lib.hid hcd
                    clear hc' hcd
                    go_wp2_with fail
                    refine (add_bad v d a N cap v' d' a' N' cap' c' _ Hck.out Hcd.out h0).mono ?_
                    rintro e y1 ⟨rfl, hbn⟩
                    clear f0 f1 f2
                    clear g0 g1 g2
                    clear p0 p1 p2
                    clear l0 l1 l2
                    replace Hf := Lib.hid (Hf.out.below hbn)
                    replace Hg := Lib.hid (Hg.out.below hbn)
                    replace HA := Lib.hid (HA.out.below hbn)
                    replace HG := Lib.hid (HG.out.below hbn)
                    replace HT := Lib.hid (HT.out.below hbn)
                    replace HP := Lib.hid (HP.out.below hbn)
                    replace Hp := Lib.hid (Hp.out.below hbn)
                    replace HU := Lib.hid (HU.out.below hbn)
                    replace Hl := Lib.hid (Hl.out.below hbn)
                    have f0 : y1.cell? ⟨w.heap.size, 0, none⟩ = some (.int .i64 v) := Hf.out.cell 0
                    have f1 : y1.cell? ⟨w.heap.size, 1, none⟩ = some (.int .i64 d) := Hf.out.cell 1
                    have f2 : y1.cell? ⟨w.heap.size, 2, none⟩ = some (.slice a N cap) := Hf.out.cell 2
                    have g0 : y1.cell? ⟨w.heap.size + 1, 0, none⟩ = some (.int .i64 v') := Hg.out.cell 0
                    have g1 : y1.cell? ⟨w.heap.size + 1, 1, none⟩ = some (.int .i64 d') := Hg.out.cell 1
                    have g2 : y1.cell? ⟨w.heap.size + 1, 2, none⟩ = some (.slice a' N' cap') := Hg.out.cell 2
                    have p0 : y1.cell? ⟨w3.heap.size, 0, none⟩ = some (.int .i64 v) := Hp.out.cell 0
                    have p1 : y1.cell? ⟨w3.heap.size, 1, none⟩ = some (.int .i64 d) := Hp.out.cell 1
                    have p2 : y1.cell? ⟨w3.heap.size, 2, none⟩ = some (.slice (some ⟨r, 0, none⟩) N N) := Hp.out.cell 2
                    have l0 : y1.cell? ⟨w4.heap.size, 0, none⟩ = some (.int .i64 v) := Hl.out.cell 0
                    have l1 : y1.cell? ⟨w4.heap.size, 1, none⟩ = some (.int .i64 d1) := Hl.out.cell 1
                    have l2 : y1.cell? ⟨w4.heap.size, 2, none⟩ = some (.slice (some ⟨u, 0, none⟩) M M) := Hl.out.cell 2
                    replace Hb := Lib.hid (bnext Hb.out hbn); clear hbn
                    have lz_f_Y1 : w.heap.size < y1.heap.size := Hf.out.lt
                    have lz_g_Y1 : w.heap.size + 1 < y1.heap.size := Hg.out.lt
                    have lz_p_Y1 : w3.heap.size < y1.heap.size := Hp.out.lt
                    have lz_l_Y1 : w4.heap.size < y1.heap.size := Hl.out.lt
                    go_wp2_with fail
                    first | refine wp_world (fun Y1 => Below y1.heap.size y1 Y1) ?hR ?_ | refine calls_world (fun Y1 => Below y1.heap.size y1 Y1) ?hR ?_
                    case hR => (repeat first | exact Below.refl _ _ | (refine Below.setCell ?_ (by first | (dsimp only; omega) | (show _ ≤ _; omega) | (simp <;> omega)) _) | (refine Below.alloc ?_ (by simp <;> omega) _) | refine Below.drew ?_)
                    rintro Y1 hbn
                    clear f0 f1 f2
                    clear g0 g1 g2
                    clear p0 p1 p2
                    clear l0 l1 l2
                    replace Hf := Lib.hid (Hf.out.below hbn)
                    replace Hg := Lib.hid (Hg.out.below hbn)
                    replace HA := Lib.hid (HA.out.below hbn)
                    replace HG := Lib.hid (HG.out.below hbn)
                    replace HT := Lib.hid (HT.out.below hbn)
                    replace HP := Lib.hid (HP.out.below hbn)
                    replace Hp := Lib.hid (Hp.out.below hbn)
                    replace HU := Lib.hid (HU.out.below hbn)
                    replace Hl := Lib.hid (Hl.out.below hbn)
                    have f0 : Y1.cell? ⟨w.heap.size, 0, none⟩ = some (.int .i64 v) := Hf.out.cell 0
                    have f1 : Y1.cell? ⟨w.heap.size, 1, none⟩ = some (.int .i64 d) := Hf.out.cell 1
                    have f2 : Y1.cell? ⟨w.heap.size, 2, none⟩ = some (.slice a N cap) := Hf.out.cell 2
                    have g0 : Y1.cell? ⟨w.heap.size + 1, 0, none⟩ = some (.int .i64 v') := Hg.out.cell 0
                    have g1 : Y1.cell? ⟨w.heap.size + 1, 1, none⟩ = some (.int .i64 d') := Hg.out.cell 1
                    have g2 : Y1.cell? ⟨w.heap.size + 1, 2, none⟩ = some (.slice a' N' cap') := Hg.out.cell 2
                    have p0 : Y1.cell? ⟨w3.heap.size, 0, none⟩ = some (.int .i64 v) := Hp.out.cell 0
                    have p1 : Y1.cell? ⟨w3.heap.size, 1, none⟩ = some (.int .i64 d) := Hp.out.cell 1
                    have p2 : Y1.cell? ⟨w3.heap.size, 2, none⟩ = some (.slice (some ⟨r, 0, none⟩) N N) := Hp.out.cell 2
                    have l0 : Y1.cell? ⟨w4.heap.size, 0, none⟩ = some (.int .i64 v) := Hl.out.cell 0
                    have l1 : Y1.cell? ⟨w4.heap.size, 1, none⟩ = some (.int .i64 d1) := Hl.out.cell 1
                    have l2 : Y1.cell? ⟨w4.heap.size, 2, none⟩ = some (.slice (some ⟨u, 0, none⟩) M M) := Hl.out.cell 2
                    replace Hb := Lib.hid (bnext Hb.out hbn); clear hbn
                    go_wp2_with fail
                    refine (awake_any _ HT.out).mono ?_
                    rintro e y6 ⟨rfl, hbn⟩
                    clear f0 f1 f2
                    clear g0 g1 g2
                    clear p0 p1 p2
                    clear l0 l1 l2
                    replace Hf := Lib.hid (Hf.out.below hbn)
                    replace Hg := Lib.hid (Hg.out.below hbn)
                    replace HA := Lib.hid (HA.out.below hbn)
                    replace HG := Lib.hid (HG.out.below hbn)
                    replace HT := Lib.hid (HT.out.below hbn)
                    replace HP := Lib.hid (HP.out.below hbn)
                    replace Hp := Lib.hid (Hp.out.below hbn)
                    replace HU := Lib.hid (HU.out.below hbn)
                    replace Hl := Lib.hid (Hl.out.below hbn)
                    have f0 : y6.cell? ⟨w.heap.size, 0, none⟩ = some (.int .i64 v) := Hf.out.cell 0
                    have f1 : y6.cell? ⟨w.heap.size, 1, none⟩ = some (.int .i64 d) := Hf.out.cell 1
                    have f2 : y6.cell? ⟨w.heap.size, 2, none⟩ = some (.slice a N cap) := Hf.out.cell 2
                    have g0 : y6.cell? ⟨w.heap.size + 1, 0, none⟩ = some (.int .i64 v') := Hg.out.cell 0
                    have g1 : y6.cell? ⟨w.heap.size + 1, 1, none⟩ = some (.int .i64 d') := Hg.out.cell 1
                    have g2 : y6.cell? ⟨w.heap.size + 1, 2, none⟩ = some (.slice a' N' cap') := Hg.out.cell 2
                    have p0 : y6.cell? ⟨w3.heap.size, 0, none⟩ = some (.int .i64 v) := Hp.out.cell 0
                    have p1 : y6.cell? ⟨w3.heap.size, 1, none⟩ = some (.int .i64 d) := Hp.out.cell 1
                    have p2 : y6.cell? ⟨w3.heap.size, 2, none⟩ = some (.slice (some ⟨r, 0, none⟩) N N) := Hp.out.cell 2
                    have l0 : y6.cell? ⟨w4.heap.size, 0, none⟩ = some (.int .i64 v) := Hl.out.cell 0
                    have l1 : y6.cell? ⟨w4.heap.size, 1, none⟩ = some (.int .i64 d1) := Hl.out.cell 1
                    have l2 : y6.cell? ⟨w4.heap.size, 2, none⟩ = some (.slice (some ⟨u, 0, none⟩) M M) := Hl.out.cell 2
                    replace Hb := Lib.hid (bnext Hb.out hbn); clear hbn
                    go_wp2
                    refine bodyPost_ret (v := .bool true) (by simp [results, Tryz.results3, go_sem]) rfl ⟨rfl, ?_⟩
                    (repeat first | exact Hb.out | (refine Below.setCell ?_ (by have := Hb.out.size; first | (dsimp only; omega) | (show _ ≤ _; omega) | (simp <;> omega)) _) | (refine Below.alloc ?_ (by have := Hb.out.size; simp <;> omega) _) | refine Below.drew ?_)
            · go_wp2_with fail
              refine (lift_limd V D v d HVv.out HDd.out a cap N _ Hck.out (by have := H5.out; omega) hk).mono ?_
              rintro e w4 ⟨rfl, hbn⟩
              clear f0 f1 f2
              clear g0 g1 g2
              clear p0 p1 p2
              clear q0 q1 q2
              replace Hf := Lib.hid (Hf.out.below hbn)
              replace Hg := Lib.hid (Hg.out.below hbn)
              replace HA := Lib.hid (HA.out.below hbn)
              replace HG := Lib.hid (HG.out.below hbn)
              replace HT := Lib.hid (HT.out.below hbn)
              replace HP := Lib.hid (HP.out.below hbn)
              replace HQ := Lib.hid (HQ.out.below hbn)
              replace Hp := Lib.hid (Hp.out.below hbn)
              replace Hq := Lib.hid (Hq.out.below hbn)
              have f0 : w4.cell? ⟨w.heap.size, 0, none⟩ = some (.int .i64 v) := Hf.out.cell 0
              have f1 : w4.cell? ⟨w.heap.size, 1, none⟩ = some (.int .i64 d) := Hf.out.cell 1
              have f2 : w4.cell? ⟨w.heap.size, 2, none⟩ = some (.slice a N cap) := Hf.out.cell 2
              have g0 : w4.cell? ⟨w.heap.size + 1, 0, none⟩ = some (.int .i64 v') := Hg.out.cell 0
              have g1 : w4.cell? ⟨w.heap.size + 1, 1, none⟩ = some (.int .i64 d') := Hg.out.cell 1
              have g2 : w4.cell? ⟨w.heap.size + 1, 2, none⟩ = some (.slice a' N' cap') := Hg.out.cell 2
              have p0 : w4.cell? ⟨w3.heap.size, 0, none⟩ = some (.int .i64 v) := Hp.out.cell 0
              have p1 : w4.cell? ⟨w3.heap.size, 1, none⟩ = some (.int .i64 d) := Hp.out.cell 1
              have p2 : w4.cell? ⟨w3.heap.size, 2, none⟩ = some (.slice (some ⟨r, 0, none⟩) N N) := Hp.out.cell 2
              have q0 : w4.cell? ⟨w3.heap.size + 1, 0, none⟩ = some (.int .i64 v) := Hq.out.cell 0
              have q1 : w4.cell? ⟨w3.heap.size + 1, 1, none⟩ = some (.int .i64 d) := Hq.out.cell 1
              have q2 : w4.cell? ⟨w3.heap.size + 1, 2, none⟩ = some (.slice (some ⟨s, 0, none⟩) N N) := Hq.out.cell 2
              replace Hb := Lib.hid (bnext Hb.out hbn); clear hbn
              have lz_f_W4 : w.heap.size < w4.heap.size := Hf.out.lt
              have lz_g_W4 : w.heap.size + 1 < w4.heap.size := Hg.out.lt
              have lz_p_W4 : w3.heap.size < w4.heap.size := Hp.out.lt
              have lz_q_W4 : w3.heap.size + 1 < w4.heap.size := Hq.out.lt
              go_wp2_with fail
              first | refine wp_world (fun W4 => Below w4.heap.size w4 W4) ?hR ?_ | refine calls_world (fun W4 => Below w4.heap.size w4 W4) ?hR ?_
              case hR => (repeat first | exact Below.refl _ _ | (refine Below.setCell ?_ (by first | (dsimp only; omega) | (show _ ≤ _; omega) | (simp <;> omega)) _) | (refine Below.alloc ?_ (by simp <;> omega) _) | refine Below.drew ?_)
              rintro W4 hbn
              clear f0 f1 f2
              clear g0 g1 g2
              clear p0 p1 p2
              clear q0 q1 q2
              replace Hf := Lib.hid (Hf.out.below hbn)
              replace Hg := Lib.hid (Hg.out.below hbn)
              replace HA := Lib.hid (HA.out.below hbn)
              replace HG := Lib.hid (HG.out.below hbn)
              replace HT := Lib.hid (HT.out.below hbn)
              replace HP := Lib.hid (HP.out.below hbn)
              replace HQ := Lib.hid (HQ.out.below hbn)
              replace Hp := Lib.hid (Hp.out.below hbn)
              replace Hq := Lib.hid (Hq.out.below hbn)
              have f0 : W4.cell? ⟨w.heap.size, 0, none⟩ = some (.int .i64 v) := Hf.out.cell 0
              have f1 : W4.cell? ⟨w.heap.size, 1, none⟩ = some (.int .i64 d) := Hf.out.cell 1
              have f2 : W4.cell? ⟨w.heap.size, 2, none⟩ = some (.slice a N cap) := Hf.out.cell 2
              have g0 : W4.cell? ⟨w.heap.size + 1, 0, none⟩ = some (.int .i64 v') := Hg.out.cell 0
              have g1 : W4.cell? ⟨w.heap.size + 1, 1, none⟩ = some (.int .i64 d') := Hg.out.cell 1
              have g2 : W4.cell? ⟨w.heap.size + 1, 2, none⟩ = some (.slice a' N' cap') := Hg.out.cell 2
              have p0 : W4.cell? ⟨w3.heap.size, 0, none⟩ = some (.int .i64 v) := Hp.out.cell 0
              have p1 : W4.cell? ⟨w3.heap.size, 1, none⟩ = some (.int .i64 d) := Hp.out.cell 1
              have p2 : W4.cell? ⟨w3.heap.size, 2, none⟩ = some (.slice (some ⟨r, 0, none⟩) N N) := Hp.out.cell 2
              have q0 : W4.cell? ⟨w3.heap.size + 1, 0, none⟩ = some (.int .i64 v) := Hq.out.cell 0
              have q1 : W4.cell? ⟨w3.heap.size + 1, 1, none⟩ = some (.int .i64 d) := Hq.out.cell 1
              have q2 : W4.cell? ⟨w3.heap.size + 1, 2, none⟩ = some (.slice (some ⟨s, 0, none⟩) N N) := Hq.out.cell 2
              replace Hb := Lib.hid (bnext Hb.out hbn); clear hbn
              go_wp2_with fail
              refine (awake_any _ HT.out).mono ?_
              rintro e w5 ⟨rfl, hbn⟩
              clear f0 f1 f2
              clear g0 g1 g2
              clear p0 p1 p2
              clear q0 q1 q2
              replace Hf := Lib.hid (Hf.out.below hbn)
              replace Hg := Lib.hid (Hg.out.below hbn)
              replace HA := Lib.hid (HA.out.below hbn)
              replace HG := Lib.hid (HG.out.below hbn)
              replace HT := Lib.hid (HT.out.below hbn)
              replace HP := Lib.hid (HP.out.below hbn)
              replace HQ := Lib.hid (HQ.out.below hbn)
              replace Hp := Lib.hid (Hp.out.below hbn)
              replace Hq := Lib.hid (Hq.out.below hbn)
              have f0 : w5.cell? ⟨w.heap.size, 0, none⟩ = some (.int .i64 v) := Hf.out.cell 0
              have f1 : w5.cell? ⟨w.heap.size, 1, none⟩ = some (.int .i64 d) := Hf.out.cell 1
              have f2 : w5.cell? ⟨w.heap.size, 2, none⟩ = some (.slice a N cap) := Hf.out.cell 2
              have g0 : w5.cell? ⟨w.heap.size + 1, 0, none⟩ = some (.int .i64 v') := Hg.out.cell 0
              have g1 : w5.cell? ⟨w.heap.size + 1, 1, none⟩ = some (.int .i64 d') := Hg.out.cell 1
              have g2 : w5.cell? ⟨w.heap.size + 1, 2, none⟩ = some (.slice a' N' cap') := Hg.out.cell 2
              have p0 : w5.cell? ⟨w3.heap.size, 0, none⟩ = some (.int .i64 v) := Hp.out.cell 0
              have p1 : w5.cell? ⟨w3.heap.size, 1, none⟩ = some (.int .i64 d) := Hp.out.cell 1
              have p2 : w5.cell? ⟨w3.heap.size, 2, none⟩ = some (.slice (some ⟨r, 0, none⟩) N N) := Hp.out.cell 2
              have q0 : w5.cell? ⟨w3.heap.size + 1, 0, none⟩ = some (.int .i64 v) := Hq.out.cell 0
              have q1 : w5.cell? ⟨w3.heap.size + 1, 1, none⟩ = some (.int .i64 d) := Hq.out.cell 1
              have q2 : w5.cell? ⟨w3.heap.size + 1, 2, none⟩ = some (.slice (some ⟨s, 0, none⟩) N N) := Hq.out.cell 2
              replace Hb := Lib.hid (bnext Hb.out hbn); clear hbn
              go_wp2
              refine bodyPost_ret (v := .bool true) (by simp [results, Tryz.results3, go_sem]) rfl ⟨rfl, ?_⟩
              (repeat first | exact Hb.out | (refine Below.setCell ?_ (by have := Hb.out.size; first | (dsimp only; omega) | (show _ ≤ _; omega) | (simp <;> omega)) _) | (refine Below.alloc ?_ (by have := Hb.out.size; simp <;> omega) _) | refine Below.drew ?_)
          · have Hij := Lib.hid hij
            clear hij hc hV hD hV8 hV1 hD5 hcnt c1 c2 c3 c4 c5 c6
            go_wp2_with fail
            refine (split_arg v d a N cap i j _ Hck.out Hij.out).mono ?_
            rintro e w3 ⟨rfl, hbn⟩
            clear f0 f1 f2
            clear g0 g1 g2
            replace Hf := Lib.hid (Hf.out.below hbn)
            replace Hg := Lib.hid (Hg.out.below hbn)
            replace HA := Lib.hid (HA.out.below hbn)
            replace HG := Lib.hid (HG.out.below hbn)
            replace HT := Lib.hid (HT.out.below hbn)
            have f0 : w3.cell? ⟨w.heap.size, 0, none⟩ = some (.int .i64 v) := Hf.out.cell 0
            have f1 : w3.cell? ⟨w.heap.size, 1, none⟩ = some (.int .i64 d) := Hf.out.cell 1
            have f2 : w3.cell? ⟨w.heap.size, 2, none⟩ = some (.slice a N cap) := Hf.out.cell 2
            have g0 : w3.cell? ⟨w.heap.size + 1, 0, none⟩ = some (.int .i64 v') := Hg.out.cell 0
            have g1 : w3.cell? ⟨w.heap.size + 1, 1, none⟩ = some (.int .i64 d') := Hg.out.cell 1
            have g2 : w3.cell? ⟨w.heap.size + 1, 2, none⟩ = some (.slice a' N' cap') := Hg.out.cell 2
            replace Hb := Lib.hid (bnext Hb.out hbn); clear hbn
            have lz_f_W3 : w.heap.size < w3.heap.size := Hf.out.lt
            have lz_g_W3 : w.heap.size + 1 < w3.heap.size := Hg.out.lt
            go_wp2_with fail
            first | refine wp_world (fun W3 => Below w3.heap.size w3 W3) ?hR ?_ | refine calls_world (fun W3 => Below w3.heap.size w3 W3) ?hR ?_
            case hR => (repeat first | exact Below.refl _ _ | (refine Below.setCell ?_ (by first | (dsimp only; omega) | (show _ ≤ _; omega) | (simp <;> omega)) _) | (refine Below.alloc ?_ (by simp <;> omega) _) | refine Below.drew ?_)
            rintro W3 hbn
            clear f0 f1 f2
            clear g0 g1 g2
            replace Hf := Lib.hid (Hf.out.below hbn)
            replace Hg := Lib.hid (Hg.out.below hbn)
            replace HA := Lib.hid (HA.out.below hbn)
            replace HG := Lib.hid (HG.out.below hbn)
            replace HT := Lib.hid (HT.out.below hbn)
            have f0 : W3.cell? ⟨w.heap.size, 0, none⟩ = some (.int .i64 v) := Hf.out.cell 0
            have f1 : W3.cell? ⟨w.heap.size, 1, none⟩ = some (.int .i64 d) := Hf.out.cell 1
            have f2 : W3.cell? ⟨w.heap.size, 2, none⟩ = some (.slice a N cap) := Hf.out.cell 2
            have g0 : W3.cell? ⟨w.heap.size + 1, 0, none⟩ = some (.int .i64 v') := Hg.out.cell 0
            have g1 : W3.cell? ⟨w.heap.size + 1, 1, none⟩ = some (.int .i64 d') := Hg.out.cell 1
            have g2 : W3.cell? ⟨w.heap.size + 1, 2, none⟩ = some (.slice a' N' cap') := Hg.out.cell 2
            replace Hb := Lib.hid (bnext Hb.out hbn); clear hbn
            go_wp2_with fail
            refine (lift_some V D v d HVv.out HDd.out a cap N raws HN.out 192 _ Hck.out (by have := H5.out; omega) Hfair.out.fit (by decide) HA.out HT.out).mono ?_
            rintro e w4 ⟨v2, d2, a2, n2, cap2, c2, rfl, hbn⟩
            clear f0 f1 f2
            clear g0 g1 g2
            replace Hf := Lib.hid (Hf.out.below hbn)
            replace Hg := Lib.hid (Hg.out.below hbn)
            replace HA := Lib.hid (HA.out.below hbn)
            replace HG := Lib.hid (HG.out.below hbn)
            replace HT := Lib.hid (HT.out.below hbn)
            have f0 : w4.cell? ⟨w.heap.size, 0, none⟩ = some (.int .i64 v) := Hf.out.cell 0
            have f1 : w4.cell? ⟨w.heap.size, 1, none⟩ = some (.int .i64 d) := Hf.out.cell 1
            have f2 : w4.cell? ⟨w.heap.size, 2, none⟩ = some (.slice a N cap) := Hf.out.cell 2
            have g0 : w4.cell? ⟨w.heap.size + 1, 0, none⟩ = some (.int .i64 v') := Hg.out.cell 0
            have g1 : w4.cell? ⟨w.heap.size + 1, 1, none⟩ = some (.int .i64 d') := Hg.out.cell 1
            have g2 : w4.cell? ⟨w.heap.size + 1, 2, none⟩ = some (.slice a' N' cap') := Hg.out.cell 2
            replace Hb := Lib.hid (bnext Hb.out hbn); clear hbn
            have lz_f_W4 : w.heap.size < w4.heap.size := Hf.out.lt
            have lz_g_W4 : w.heap.size + 1 < w4.heap.size := Hg.out.lt
            go_wp2_with fail
            first | refine wp_world (fun W4 => Below w4.heap.size w4 W4) ?hR ?_ | refine calls_world (fun W4 => Below w4.heap.size w4 W4) ?hR ?_
            case hR => (repeat first | exact Below.refl _ _ | (refine Below.setCell ?_ (by first | (dsimp only; omega) | (show _ ≤ _; omega) | (simp <;> omega)) _) | (refine Below.alloc ?_ (by simp <;> omega) _) | refine Below.drew ?_)
            rintro W4 hbn
            clear f0 f1 f2
            clear g0 g1 g2
            replace Hf := Lib.hid (Hf.out.below hbn)
            replace Hg := Lib.hid (Hg.out.below hbn)
            replace HA := Lib.hid (HA.out.below hbn)
            replace HG := Lib.hid (HG.out.below hbn)
            replace HT := Lib.hid (HT.out.below hbn)
            have f0 : W4.cell? ⟨w.heap.size, 0, none⟩ = some (.int .i64 v) := Hf.out.cell 0
            have f1 : W4.cell? ⟨w.heap.size, 1, none⟩ = some (.int .i64 d) := Hf.out.cell 1
            have f2 : W4.cell? ⟨w.heap.size, 2, none⟩ = some (.slice a N cap) := Hf.out.cell 2
            have g0 : W4.cell? ⟨w.heap.size + 1, 0, none⟩ = some (.int .i64 v') := Hg.out.cell 0
            have g1 : W4.cell? ⟨w.heap.size + 1, 1, none⟩ = some (.int .i64 d') := Hg.out.cell 1
            have g2 : W4.cell? ⟨w.heap.size + 1, 2, none⟩ = some (.slice a' N' cap') := Hg.out.cell 2
            replace Hb := Lib.hid (bnext Hb.out hbn); clear hbn
            go_wp2_with fail
            refine (awake_any _ HT.out).mono ?_
            rintro e w5 ⟨rfl, hbn⟩
            clear f0 f1 f2
            clear g0 g1 g2
            replace Hf := Lib.hid (Hf.out.below hbn)
            replace Hg := Lib.hid (Hg.out.below hbn)
            replace HA := Lib.hid (HA.out.below hbn)
            replace HG := Lib.hid (HG.out.below hbn)
            replace HT := Lib.hid (HT.out.below hbn)
            have f0 : w5.cell? ⟨w.heap.size, 0, none⟩ = some (.int .i64 v) := Hf.out.cell 0
            have f1 : w5.cell? ⟨w.heap.size, 1, none⟩ = some (.int .i64 d) := Hf.out.cell 1
            have f2 : w5.cell? ⟨w.heap.size, 2, none⟩ = some (.slice a N cap) := Hf.out.cell 2
            have g0 : w5.cell? ⟨w.heap.size + 1, 0, none⟩ = some (.int .i64 v') := Hg.out.cell 0
            have g1 : w5.cell? ⟨w.heap.size + 1, 1, none⟩ = some (.int .i64 d') := Hg.out.cell 1
            have g2 : w5.cell? ⟨w.heap.size + 1, 2, none⟩ = some (.slice a' N' cap') := Hg.out.cell 2
            replace Hb := Lib.hid (bnext Hb.out hbn); clear hbn
            go_wp2
            refine bodyPost_ret (v := .bool true) (by simp [results, Tryz.results3, go_sem]) rfl ⟨rfl, ?_⟩
            (repeat first | exact Hb.out | (refine Below.setCell ?_ (by have := Hb.out.size; first | (dsimp only; omega) | (show _ ≤ _; omega) | (simp <;> omega)) _) | (refine Below.alloc ?_ (by have := Hb.out.size; simp <;> omega) _) | refine Below.drew ?_)
        · have h0 : (chk v d N != 0) = true := by simpa using hc
          obtain ⟨c, hcd⟩ : ∃ c, chk v d N = c := ⟨_, rfl⟩
          rw [hcd] at h0
          have Hcd := Lib.hid hcd
          clear hc hcd
          go_wp2_with fail
          refine (split_err v d a N cap i j c _ Hcd.out h0).mono ?_
          rintro e w3 ⟨rfl, hbn⟩
          clear f0 f1 f2
          clear g0 g1 g2
          replace Hf := Lib.hid (Hf.out.below hbn)
          replace Hg := Lib.hid (Hg.out.below hbn)
          replace HA := Lib.hid (HA.out.below hbn)
          replace HG := Lib.hid (HG.out.below hbn)
          replace HT := Lib.hid (HT.out.below hbn)
          have f0 : w3.cell? ⟨w.heap.size, 0, none⟩ = some (.int .i64 v) := Hf.out.cell 0
          have f1 : w3.cell? ⟨w.heap.size, 1, none⟩ = some (.int .i64 d) := Hf.out.cell 1
          have f2 : w3.cell? ⟨w.heap.size, 2, none⟩ = some (.slice a N cap) := Hf.out.cell 2
          have g0 : w3.cell? ⟨w.heap.size + 1, 0, none⟩ = some (.int .i64 v') := Hg.out.cell 0
          have g1 : w3.cell? ⟨w.heap.size + 1, 1, none⟩ = some (.int .i64 d') := Hg.out.cell 1
          have g2 : w3.cell? ⟨w.heap.size + 1, 2, none⟩ = some (.slice a' N' cap') := Hg.out.cell 2
          replace Hb := Lib.hid (bnext Hb.out hbn); clear hbn
          have lz_f_W3 : w.heap.size < w3.heap.size := Hf.out.lt
          have lz_g_W3 : w.heap.size + 1 < w3.heap.size := Hg.out.lt
          go_wp2_with fail
          first | refine wp_world (fun W3 => Below w3.heap.size w3 W3) ?hR ?_ | refine calls_world (fun W3 => Below w3.heap.size w3 W3) ?hR ?_
          case hR => (repeat first | exact Below.refl _ _ | (refine Below.setCell ?_ (by first | (dsimp only; omega) | (show _ ≤ _; omega) | (simp <;> omega)) _) | (refine Below.alloc ?_ (by simp <;> omega) _) | refine Below.drew ?_)
          rintro W3 hbn
          clear f0 f1 f2
          clear g0 g1 g2
          replace Hf := Lib.hid (Hf.out.below hbn)
          replace Hg := Lib.hid (Hg.out.below hbn)
          replace HA := Lib.hid (HA.out.below hbn)
          replace HG := Lib.hid (HG.out.below hbn)
          replace HT := Lib.hid (HT.out.below hbn)
          have f0 : W3.cell? ⟨w.heap.size, 0, none⟩ = some (.int .i64 v) := Hf.out.cell 0
          have f1 : W3.cell? ⟨w.heap.size, 1, none⟩ = some (.int .i64 d) := Hf.out.cell 1
          have f2 : W3.cell? ⟨w.heap.size, 2, none⟩ = some (.slice a N cap) := Hf.out.cell 2
          have g0 : W3.cell? ⟨w.heap.size + 1, 0, none⟩ = some (.int .i64 v') := Hg.out.cell 0
          have g1 : W3.cell? ⟨w.heap.size + 1, 1, none⟩ = some (.int .i64 d') := Hg.out.cell 1
          have g2 : W3.cell? ⟨w.heap.size + 1, 2, none⟩ = some (.slice a' N' cap') := Hg.out.cell 2
          replace Hb := Lib.hid (bnext Hb.out hbn); clear hbn
          go_wp2_with fail
          refine (lift_err v d a N cap c _ Hcd.out h0).mono ?_
          rintro e w4 ⟨rfl, hbn⟩
          clear f0 f1 f2
          clear g0 g1 g2
          replace Hf := Lib.hid (Hf.out.below hbn)
          replace Hg := Lib.hid (Hg.out.below hbn)
          replace HA := Lib.hid (HA.out.below hbn)
          replace HG := Lib.hid (HG.out.below hbn)
          replace HT := Lib.hid (HT.out.below hbn)
          have f0 : w4.cell? ⟨w.heap.size, 0, none⟩ = some (.int .i64 v) := Hf.out.cell 0
          have f1 : w4.cell? ⟨w.heap.size, 1, none⟩ = some (.int .i64 d) := Hf.out.cell 1
          have f2 : w4.cell? ⟨w.heap.size, 2, none⟩ = some (.slice a N cap) := Hf.out.cell 2
          have g0 : w4.cell? ⟨w.heap.size + 1, 0, none⟩ = some (.int .i64 v') := Hg.out.cell 0
          have g1 : w4.cell? ⟨w.heap.size + 1, 1, none⟩ = some (.int .i64 d') := Hg.out.cell 1
          have g2 : w4.cell? ⟨w.heap.size + 1, 2, none⟩ = some (.slice a' N' cap') := Hg.out.cell 2
          replace Hb := Lib.hid (bnext Hb.out hbn); clear hbn
          have lz_f_W4 : w.heap.size < w4.heap.size := Hf.out.lt
          have lz_g_W4 : w.heap.size + 1 < w4.heap.size := Hg.out.lt
          go_wp2_with fail
          first | refine wp_world (fun W4 => Below w4.heap.size w4 W4) ?hR ?_ | refine calls_world (fun W4 => Below w4.heap.size w4 W4) ?hR ?_
          case hR => (repeat first | exact Below.refl _ _ | (refine Below.setCell ?_ (by first | (dsimp only; omega) | (show _ ≤ _; omega) | (simp <;> omega)) _) | (refine Below.alloc ?_ (by simp <;> omega) _) | refine Below.drew ?_)
          rintro W4 hbn
          clear f0 f1 f2
          clear g0 g1 g2
          replace Hf := Lib.hid (Hf.out.below hbn)
          replace Hg := Lib.hid (Hg.out.below hbn)
          replace HA := Lib.hid (HA.out.below hbn)
          replace HG := Lib.hid (HG.out.below hbn)
          replace HT := Lib.hid (HT.out.below hbn)
          have f0 : W4.cell? ⟨w.heap.size, 0, none⟩ = some (.int .i64 v) := Hf.out.cell 0
          have f1 : W4.cell? ⟨w.heap.size, 1, none⟩ = some (.int .i64 d) := Hf.out.cell 1
          have f2 : W4.cell? ⟨w.heap.size, 2, none⟩ = some (.slice a N cap) := Hf.out.cell 2
          have g0 : W4.cell? ⟨w.heap.size + 1, 0, none⟩ = some (.int .i64 v') := Hg.out.cell 0
          have g1 : W4.cell? ⟨w.heap.size + 1, 1, none⟩ = some (.int .i64 d') := Hg.out.cell 1
          have g2 : W4.cell? ⟨w.heap.size + 1, 2, none⟩ = some (.slice a' N' cap') := Hg.out.cell 2
          replace Hb := Lib.hid (bnext Hb.out hbn); clear hbn
          go_wp2_with fail
          refine (awake_any _ HT.out).mono ?_
          rintro e w5 ⟨rfl, hbn⟩
          clear f0 f1 f2
          clear g0 g1 g2
          replace Hf := Lib.hid (Hf.out.below hbn)
          replace Hg := Lib.hid (Hg.out.below hbn)
          replace HA := Lib.hid (HA.out.below hbn)
          replace HG := Lib.hid (HG.out.below hbn)
          replace HT := Lib.hid (HT.out.below hbn)
          have f0 : w5.cell? ⟨w.heap.size, 0, none⟩ = some (.int .i64 v) := Hf.out.cell 0
          have f1 : w5.cell? ⟨w.heap.size, 1, none⟩ = some (.int .i64 d) := Hf.out.cell 1
          have f2 : w5.cell? ⟨w.heap.size, 2, none⟩ = some (.slice a N cap) := Hf.out.cell 2
          have g0 : w5.cell? ⟨w.heap.size + 1, 0, none⟩ = some (.int .i64 v') := Hg.out.cell 0
          have g1 : w5.cell? ⟨w.heap.size + 1, 1, none⟩ = some (.int .i64 d') := Hg.out.cell 1
          have g2 : w5.cell? ⟨w.heap.size + 1, 2, none⟩ = some (.slice a' N' cap') := Hg.out.cell 2
          replace Hb := Lib.hid (bnext Hb.out hbn); clear hbn
          go_wp2
          refine bodyPost_ret (v := .bool true) (by simp [results, Tryz.results3, go_sem]) rfl ⟨rfl, ?_⟩
          (repeat first | exact Hb.out | (refine Below.setCell ?_ (by have := Hb.out.size; first | (dsimp only; omega) | (show _ ≤ _; omega) | (simp <;> omega)) _) | (refine Below.alloc ?_ (by have := Hb.out.size; simp <;> omega) _) | refine Below.drew ?_)
end Go.Proofs.YtidjljldhdckiaaGreatDoor
