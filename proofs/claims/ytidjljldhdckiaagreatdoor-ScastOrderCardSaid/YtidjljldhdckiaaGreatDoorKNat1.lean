/- The limbs' functions: what each call does. -/
import Derived.Test.YtidjljldhdckiaaGreatDoorKBase
import Derived.Test.YtidjljldhdckiaaGreatDoorKBits
namespace Go.Proofs.YtidjljldhdckiaaGreatDoor
open Go.RowKit

set_option maxHeartbeats 400000 in
theorem cut_any (b o n cap v : Nat) (w : World) (hm : n ≤ 1099511627776) (hcap : n ≤ cap) (hc : LimAt w b o n v) (hv : v < WW ^ n) :
    Calls Tryz.prog 111 #[.slice (some ⟨b, o, none⟩) n cap] w fun e w' => e = .returned (.slice (some ⟨b, o, none⟩) (ln v) cap) ∧ w = w' := by
  have Hc := Lib.hid hc; clear hc
  have Hv := Lib.hid hv; clear hv
  go_enter Tryz.func111, Tryz.ntmps111
  go_wp2
  go_loop [0] (fun x => ∃ k : Nat, k ≤ n ∧ v < WW ^ k ∧ x = .slice (some ⟨b, o, none⟩) k cap) (fun x => match x with | .slice _ k _ => k | _ => 0)
  case atStart => exact ⟨n, Nat.le_refl _, Hv.out, rfl⟩
  case round =>
    obtain ⟨k, hk, hvk, rfl⟩ := hrel
    have Hvk := Lib.hid hvk; clear hvk
    by_cases h0 : 0 < k
    · have hcell : w.cell? ⟨b, o + (k - 1), none⟩ = some (.int .u64 (dg v (k - 1) : Int)) := Hc.out _ (by omega)
      by_cases hd : dg v (k - 1) = 0
      · have hd' : ((dg v (k - 1) : Int) == 0) = true := by simp [hd]
        have Hd := Lib.hid hd; clear hd
        go_wp2
        refine ⟨⟨k - 1, by omega, ?_, rfl⟩, by simp; omega⟩
        refine top_zero ?_ Hd.out
        rw [show k - 1 + 1 = k by omega]; exact Hvk.out
      · have hd' : ((dg v (k - 1) : Int) == 0) = false := by simp [hd]
        have Hd := Lib.hid hd; clear hd
        go_wp2
        go_ret
        have e : ln v = k := by
          have := ln_eq (v := v) (n := k - 1) (by rw [show k - 1 + 1 = k by omega]; exact Hvk.out) (top_pos Hd.out)
          omega
        rw [e]; exact ⟨rfl, rfl⟩
    · obtain rfl : k = 0 := by omega
      go_wp2
      go_ret
      have e : ln v = 0 := by
        have := Hvk.out; simp at this; subst this; rfl
      rw [e]; exact ⟨rfl, rfl⟩

set_option maxHeartbeats 400000 in
theorem cut_nil (cap : Nat) (a : Option Addr) (w : World) :
    Calls Tryz.prog 111 #[.slice a 0 cap] w fun e w' => e = .returned (.slice a 0 cap) ∧ w = w' := by
  go_enter Tryz.func111, Tryz.ntmps111
  go_wp2
  refine wp_loop_rounds 1 ?_
  rw [rounds_succ]
  go_wp2
  go_ret
  exact ⟨rfl, rfl⟩
/-- A row with a part written anew. -/
def patch (F : Nat → Nat) (o k : Nat) (G : Nat → Nat) (j : Nat) : Nat := if o ≤ j ∧ j < o + k then G (j - o) else F j

theorem patch_zero (F : Nat → Nat) (o : Nat) (G : Nat → Nat) : patch F o 0 G = F := by
  funext j; unfold patch; rw [if_neg (by omega)]
theorem patch_at (F : Nat → Nat) (o k : Nat) (G : Nat → Nat) (j : Nat) (h : k ≤ j) : patch F o k G (o + j) = F (o + j) := by
  unfold patch; rw [if_neg (by omega)]
theorem patch_in (F : Nat → Nat) (o k : Nat) (G : Nat → Nat) (j : Nat) (h : j < k) : patch F o k G (o + j) = G j := by
  unfold patch; rw [if_pos (by omega)]; congr 1; omega
theorem patch_set (N : Nat) (F : Nat → Nat) (o i : Nat) (G : Nat → Nat) (x : Nat) (hx : x = G i) :
    (uls N (patch F o i G)).set (o + i) (.int .u64 (x : Int)) = uls N (patch F o (i + 1) G) := by
  rw [uls_set]
  refine uls_congr fun j _ => ?_
  unfold patch
  by_cases h : j = o + i
  · subst h; rw [if_pos rfl, if_pos (by omega), hx]; congr 1; omega
  · rw [if_neg h]
    by_cases h2 : o ≤ j ∧ j < o + i
    · rw [if_pos h2, if_pos (by omega)]
    · rw [if_neg h2, if_neg (by omega)]

set_option maxHeartbeats 1000000 in
set_option maxRecDepth 100000 in
theorem ladd_any (b N o n capx : Nat) (F : Nat → Nat) (v : Nat) (b2 o2 m cap2 u : Nat) (w : World) (hm : n ≤ 1099511627776) (_hm2 : m ≤ 1099511627776)
    (hB : Blk w b 118 (uls N F)) (hN : o + n ≤ N) (hF : ∀ j, j < n → F (o + j) = dg v j)
    (hy : LimAt w b2 o2 m u) (hu : u < WW ^ m) (hne : b2 ≠ b) :
    Calls Tryz.prog 117 #[.slice (some ⟨b, o, none⟩) n capx, .slice (some ⟨b2, o2, none⟩) m cap2] w fun e w' => e = .returned (.tuple #[]) ∧
      Blk w' b 118 (uls N (patch F o n (dg (v + u)))) ∧ w.grownBy w' (some b) := by
  have HB := Lib.hid hB; clear hB
  have HF := Lib.hid hF; clear hF
  have Hy := Lib.hid hy; clear hy
  have Hu := Lib.hid hu; clear hu
  go_enter Tryz.func117, Tryz.ntmps117
  go_wp2
  go_loopw [4, 5, 6, 9] (fun c _ _ i wr => ∃ k : Nat, k ≤ n ∧ i = .int .i64 k ∧ c = .int .u64 (cy v u 1 k : Int) ∧ Blk wr b 118 (uls N (patch F o k (dg (v + u)))) ∧ w.grownBy wr (some b)) (fun _ _ _ i _ => n - (intOf i).toNat)
  case atStart => exact ⟨0, Nat.zero_le _, rfl, by rw [cy_zero]; rfl, by rw [patch_zero]; exact HB.out, grownBy_refl _ _⟩
  case round =>
    obtain ⟨k, hk, rfl, rfl, hBk, hg⟩ := hrel
    by_cases hlt : k < n
    · have hcell : wr.cell? ⟨b, o + k, none⟩ = some (.int .u64 (dg v k : Int)) := by
        rw [hBk.cell, uls_get _ _ _ (by omega), patch_at _ _ _ _ _ (Nat.le_refl _), HF.out k hlt]
      have hfree : wr.frozen? ⟨b, o + k, none⟩ = false := hBk.free _
      have hstep := cy_step v u 1 k
      have hcy : cy v u 1 k ≤ 1 := by
        unfold cy
        have h1 := Nat.mod_lt v (WWp_pos k)
        have h2 := Nat.mod_lt u (WWp_pos k)
        have : (v % WW ^ k + u % WW ^ k * 1) / WW ^ k < 2 := by
          rw [Nat.div_lt_iff_lt_mul (WWp_pos k)]; omega
        omega
      have hrun := fun W => add64_run (dg v k) (dg u k) (cy v u 1 k) (dg_lt _ _) (dg_lt _ _) hcy W
      have e1 : (dg v k + dg u k + cy v u 1 k) % WW = dg (v + u) k := by have := hstep.1; simp only [Nat.mul_one] at this; exact this
      have e2 : (dg v k + dg u k + cy v u 1 k) / WW = cy v u 1 (k + 1) := by have := hstep.2; simp only [Nat.mul_one] at this; exact this
      rw [e1, e2] at hrun
      clear hstep e1 e2
      have Hend : Hid (Blk (wr.setCell ⟨b, o + k, none⟩ (.int .u64 (dg (v + u) k : Int))) b 118 (uls N (patch F o (k + 1) (dg (v + u))))) := by
        rw [← patch_set N F o k (dg (v + u)) _ rfl]; exact hBk.set _ _
      have Hg : Hid (w.grownBy (wr.setCell ⟨b, o + k, none⟩ (.int .u64 (dg (v + u) k : Int))) (some b)) := grownBy_trans hg (grownBy_set b rfl _)
      clear hBk
      by_cases hkm : k < m
      · have hcy2 : wr.cell? ⟨b2, o2 + k, none⟩ = some (.int .u64 (dg u k : Int)) := grownBy_cell hg (Hy.out k hkm) (by simp; omega)
        clear hg
        go_wp2
        go_roundw
        case rel => exact ⟨k + 1, by omega, by go_num, rfl, Hend.out, Hg.out⟩
        case measure => simp [intOf]; omega
      · have hz : dg u k = 0 := dg_of_lt Hu.out (by omega)
        simp only [hz, show ((0 : Nat) : Int) = 0 from rfl] at hrun
        clear hg hz
        go_wp2
        go_roundw
        case rel => exact ⟨k + 1, by omega, by go_num, rfl, Hend.out, Hg.out⟩
        case measure => simp [intOf]; omega
    · obtain rfl : k = n := by omega
      have Hend := Lib.hid hBk; clear hBk
      have Hg := Lib.hid hg; clear hg
      go_wp2
      go_end0
      exact ⟨rfl, Hend.out, Hg.out⟩
set_option maxHeartbeats 1000000 in
set_option maxRecDepth 100000 in
theorem ltake_any (b N o n capx : Nat) (F : Nat → Nat) (v : Nat) (b2 o2 m cap2 u : Nat) (w : World) (hm : n ≤ 1099511627776) (_hm2 : m ≤ 1099511627776)
    (hB : Blk w b 118 (uls N F)) (hN : o + n ≤ N) (hF : ∀ j, j < n → F (o + j) = dg v j)
    (hy : LimAt w b2 o2 m u) (hu : u < WW ^ m) (hne : b2 ≠ b) (huv : u ≤ v) (hv : v < WW ^ n) :
    Calls Tryz.prog 120 #[.slice (some ⟨b, o, none⟩) n capx, .slice (some ⟨b2, o2, none⟩) m cap2] w fun e w' => e = .returned (.bool true) ∧
      Blk w' b 118 (uls N (patch F o n (dg (v - u)))) ∧ w.grownBy w' (some b) := by
  have HB := Lib.hid hB; clear hB
  have HF := Lib.hid hF; clear hF
  have Hy := Lib.hid hy; clear hy
  have Hu := Lib.hid hu; clear hu
  have Hv := Lib.hid hv; clear hv
  have Huv := Lib.hid huv; clear huv
  go_enter Tryz.func120, Tryz.ntmps120
  go_wp2
  go_loopw [5, 6, 7, 10] (fun c _ _ i wr => ∃ k : Nat, k ≤ n ∧ i = .int .i64 k ∧ c = .int .u64 (bw v u k : Int) ∧ Blk wr b 118 (uls N (patch F o k (dg (v - u)))) ∧ w.grownBy wr (some b)) (fun _ _ _ i _ => n - (intOf i).toNat)
  case atStart => exact ⟨0, Nat.zero_le _, rfl, by rw [bw_zero]; rfl, by rw [patch_zero]; exact HB.out, grownBy_refl _ _⟩
  case round =>
    obtain ⟨k, hk, rfl, rfl, hBk, hg⟩ := hrel
    by_cases hlt : k < n
    · have hcell : wr.cell? ⟨b, o + k, none⟩ = some (.int .u64 (dg v k : Int)) := by
        rw [hBk.cell, uls_get _ _ _ (by omega), patch_at _ _ _ _ _ (Nat.le_refl _), HF.out k hlt]
      have hfree : wr.frozen? ⟨b, o + k, none⟩ = false := hBk.free _
      have hrun := fun W => sub64_run (dg v k) (dg u k) (bw v u k) (bw_le _ _ _) W
      rw [bw_digit v u k Huv.out, ← bw_step v u k] at hrun
      have Hend : Hid (Blk (wr.setCell ⟨b, o + k, none⟩ (.int .u64 (dg (v - u) k : Int))) b 118 (uls N (patch F o (k + 1) (dg (v - u))))) := by
        rw [← patch_set N F o k (dg (v - u)) _ rfl]; exact hBk.set _ _
      have Hg : Hid (w.grownBy (wr.setCell ⟨b, o + k, none⟩ (.int .u64 (dg (v - u) k : Int))) (some b)) := grownBy_trans hg (grownBy_set b rfl _)
      clear hBk
      by_cases hkm : k < m
      · have hcy2 : wr.cell? ⟨b2, o2 + k, none⟩ = some (.int .u64 (dg u k : Int)) := grownBy_cell hg (Hy.out k hkm) (by simp; omega)
        clear hg
        go_wp2
        go_roundw
        case rel => exact ⟨k + 1, by omega, by go_num, rfl, Hend.out, Hg.out⟩
        case measure => simp [intOf]; omega
      · have hz : dg u k = 0 := dg_of_lt Hu.out (by omega)
        simp only [hz, show ((0 : Nat) : Int) = 0 from rfl] at hrun
        clear hg hz
        go_wp2
        go_roundw
        case rel => exact ⟨k + 1, by omega, by go_num, rfl, Hend.out, Hg.out⟩
        case measure => simp [intOf]; omega
    · obtain rfl : k = n := by omega
      have Hend := Lib.hid hBk; clear hBk
      have Hg := Lib.hid hg; clear hg
      have hb0 : bw v u k = 0 := by
        unfold bw
        rw [Nat.mod_eq_of_lt Hv.out, Nat.mod_eq_of_lt (Nat.lt_of_le_of_lt Huv.out Hv.out), if_neg (by have := Huv.out; omega)]
      rw [hb0]
      have hb1 : (((0 : Nat) : Int) == 0) = true := rfl
      clear hb0
      go_wp2
      go_ret
      exact ⟨rfl, Hend.out, Hg.out⟩

theorem plus_step (x p c0 : Nat) : (x + (p % WW + c0 + 0) % WW + 0) % WW = (x + p + c0) % WW ∧ p / WW + (p % WW + c0 + 0) / WW + (x + (p % WW + c0 + 0) % WW + 0) / WW = (x + p + c0) / WW := by
  rw [WW_def]; omega

theorem plus_lt (x d m c : Nat) (hx : x < WW) (hd : d < WW) (hm : m < WW) (hc : c < WW) : (x + d * m + c) / WW < WW := by
  rw [Nat.div_lt_iff_lt_mul WW_pos]
  have h1 : d * m ≤ (WW - 1) * (WW - 1) := Nat.mul_le_mul (by omega) (by omega)
  have : (WW - 1) * (WW - 1) + (WW - 1) + (WW - 1) < WW * WW := by decide
  omega

theorem u64_sum (a b : Nat) (h : a + b < WW) : IntKind.u64.wrap ((a : Int) + (b : Int)) = ((a + b : Nat) : Int) := by
  rw [WW_def] at h
  rw [IntKind.wrap_u64]; omega

set_option maxHeartbeats 2000000 in
set_option maxRecDepth 100000 in
theorem lplus_any (b N o n capx : Nat) (F : Nat → Nat) (v : Nat) (b2 o2 m cap2 u q : Nat) (w : World) (hm : n ≤ 1099511627776) (_hm2 : m ≤ 1099511627776)
    (hB : Blk w b 118 (uls N F)) (hN : o + n ≤ N) (hF : ∀ j, j < n → F (o + j) = dg v j)
    (hy : LimAt w b2 o2 m u) (hu : u < WW ^ m) (hne : b2 ≠ b) (hq : q < WW) :
    Calls Tryz.prog 130 #[.slice (some ⟨b, o, none⟩) n capx, .slice (some ⟨b2, o2, none⟩) m cap2, .int .u64 (q : Int)] w fun e w' => e = .returned (.tuple #[]) ∧
      Blk w' b 118 (uls N (patch F o n (dg (v + u * q)))) ∧ w.grownBy w' (some b) := by
  have HB := Lib.hid hB; clear hB
  have HF := Lib.hid hF; clear hF
  have Hy := Lib.hid hy; clear hy
  have Hu := Lib.hid hu; clear hu
  have Hq := Lib.hid hq; clear hq
  go_enter Tryz.func130, Tryz.ntmps130
  go_wp2
  go_loopw [6, 7, 8, 9, 10, 11, 14] (fun c _ _ _ _ _ i wr => ∃ k : Nat, k ≤ n ∧ i = .int .i64 k ∧ c = .int .u64 (cy v u q k : Int) ∧ Blk wr b 118 (uls N (patch F o k (dg (v + u * q)))) ∧ w.grownBy wr (some b)) (fun _ _ _ _ _ _ i _ => n - (intOf i).toNat)
  case atStart => exact ⟨0, Nat.zero_le _, rfl, by rw [cy_zero]; rfl, by rw [patch_zero]; exact HB.out, grownBy_refl _ _⟩
  case round =>
    obtain ⟨k, hk, rfl, rfl, hBk, hg⟩ := hrel
    by_cases hlt : k < n
    · have hcell : wr.cell? ⟨b, o + k, none⟩ = some (.int .u64 (dg v k : Int)) := by
        rw [hBk.cell, uls_get _ _ _ (by omega), patch_at _ _ _ _ _ (Nat.le_refl _), HF.out k hlt]
      have hfree : wr.frozen? ⟨b, o + k, none⟩ = false := hBk.free _
      have hcl := cy_lt v u q k Hq.out
      have hs := plus_step (dg v k) (dg u k * q) (cy v u q k)
      have hl := plus_lt (dg v k) (dg u k) q (cy v u q k) (dg_lt _ _) (dg_lt _ _) Hq.out hcl
      have hstep := cy_step v u q k
      rw [hstep.1, hstep.2] at hs
      rw [hstep.2, ← hs.2] at hl
      have hmul := fun W => mul64_any (dg u k) q (dg_lt _ _) Hq.out W
      have r1 := fun W => add64_run (dg u k * q % WW) (cy v u q k) 0 (Nat.mod_lt _ WW_pos) hcl (by omega) W
      have r2 := fun W => add64_run (dg v k) ((dg u k * q % WW + cy v u q k + 0) % WW) 0 (dg_lt _ _) (Nat.mod_lt _ WW_pos) (by omega) W
      rw [hs.1] at r2
      have Hs2 := Lib.hid hs.2
      clear hs hstep hcl
      generalize (dg u k * q % WW + cy v u q k + 0) % WW = lo2 at *
      generalize (dg u k * q % WW + cy v u q k + 0) / WW = c1 at *
      generalize (dg v k + lo2 + 0) / WW = c2 at *
      generalize dg u k * q / WW = hi at *
      generalize dg u k * q % WW = lo at *
      have s1 := u64_sum hi c1 (by omega)
      have s2 := u64_sum (hi + c1) c2 hl
      have Hmul := Lib.hid hmul
      clear hl hmul
      simp only [show ((0 : Nat) : Int) = 0 from rfl] at r1 r2
      have Hend : Hid (Blk (wr.setCell ⟨b, o + k, none⟩ (.int .u64 (dg (v + u * q) k : Int))) b 118 (uls N (patch F o (k + 1) (dg (v + u * q))))) := by
        rw [← patch_set N F o k (dg (v + u * q)) _ rfl]; exact hBk.set _ _
      have Hg : Hid (w.grownBy (wr.setCell ⟨b, o + k, none⟩ (.int .u64 (dg (v + u * q) k : Int))) (some b)) := grownBy_trans hg (grownBy_set b rfl _)
      clear hBk
      by_cases hkm : k < m
      · have hcy2 : wr.cell? ⟨b2, o2 + k, none⟩ = some (.int .u64 (dg u k : Int)) := grownBy_cell hg (Hy.out k hkm) (by simp; omega)
        clear hg
        go_wp2_with (go_at_call 140; refine (Hmul.out _).mono ?_; rintro e w' ⟨rfl, rfl⟩)
        go_roundw
        case rel => exact ⟨k + 1, by omega, by go_num, by rw [← Hs2.out, ← s2, Int.natCast_add], Hend.out, Hg.out⟩
        case measure => simp [intOf]; omega
      · have hz : dg u k = 0 := dg_of_lt Hu.out (by omega)
        have Hmul0 : Hid (∀ W, Calls Tryz.prog 140 #[.int .u64 0, .int .u64 (q : Int)] W fun e w' => e = .returned (.tuple #[.int .u64 (hi : Int), .int .u64 (lo : Int)]) ∧ W = w') := by
          have := Hmul.out
          simp only [hz, show ((0 : Nat) : Int) = 0 from rfl] at this
          exact this
        clear hg hz Hmul
        go_wp2_with (go_at_call 140; refine (Hmul0.out _).mono ?_; rintro e w' ⟨rfl, rfl⟩)
        go_roundw
        case rel => exact ⟨k + 1, by omega, by go_num, by rw [← Hs2.out, ← s2, Int.natCast_add], Hend.out, Hg.out⟩
        case measure => simp [intOf]; omega
    · obtain rfl : k = n := by omega
      have Hend := Lib.hid hBk; clear hBk
      have Hg := Lib.hid hg; clear hg
      go_wp2
      go_end0
      exact ⟨rfl, Hend.out, Hg.out⟩
end Go.Proofs.YtidjljldhdckiaaGreatDoor
