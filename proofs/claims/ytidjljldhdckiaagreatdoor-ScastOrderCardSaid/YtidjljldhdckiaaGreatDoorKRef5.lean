/- Package ogeeref04: Make. -/
import Derived.Test.YtidjljldhdckiaaGreatDoorJRef3
import Derived.Deep.RegionWith
namespace Go.Proofs.YtidjljldhdckiaaGreatDoor
open Go.RowKit
attribute [local go_sem ↓] Go.wp_at_zero Go.wp_at_succ

theorem bs_take (M : List UInt8) (c : UInt8) : (bs (M ++ [c])).extract 0 M.length = bs M := by
  apply ByteArray.ext
  unfold bs
  rw [ByteArray.data_extract]
  simp
theorem slice_bs_to (M : List UInt8) (c : UInt8) (i : Int) (hi : i = M.length) (W : World) :
    (Instr.sliceAt 9 (.string (bs (M ++ [c]))) none (some (.int .i64 i)) none).run Tryz.prog W = .ok (.string (bs M)) W := by
  subst hi
  have h := run_slice_string_h (P := Tryz.prog) W 9 (bs (M ++ [c])) Tryz.underlying9 .i64 M.length (by omega) (by rw [bs_size]; simp <;> omega)
  simp only [Int.toNat_natCast, bs_take M c] at h
  simpa [Instr.sliceAt, run_underlying Tryz.underlying9] using h
theorem canon_odd (s : Bool) (n : Nat) (e : Int) (h : n % 2 = 1) : canon (dval (s, nt n, e)) = (s, nt n, e) := by
  have h0 : iv s (nt n) ≠ 0 := by rw [iv_num]; split <;> omega
  obtain ⟨h1, h2⟩ := dval_parts s (nt n) e h0
  have ht : tz n = 0 := by
    have := tz_odd 0 (n / 2)
    rw [show 2 ^ 0 * (2 * (n / 2) + 1) = n by omega] at this
    exact this
  rw [nv_nt, ht] at h1 h2
  unfold canon
  rw [h1, h2]
  have e1 : iv s (nt n) / 2 ^ 0 = iv s (nt n) := by simp
  rw [e1, iv_neg, iv_abs, nv_nt]
  have e3 : (nt n).isEmpty = false := by
    have := nt_ne_nil (n := n) (by omega)
    cases h : nt n with
    | nil => exact absurd h this
    | cons a b => rfl
  rw [e3]
  simp
theorem dval_up (s : Bool) (l : List UInt8) (n k : Nat) (e : Int) (h : n * 2 ^ k = nv l) : dval (s, nt n, e + k) = dval (s, l, e) := by
  unfold dval
  have e1 : iv s l = iv s (nt n) * 2 ^ k := by
    rw [iv_num]
    unfold iv
    rw [← h]
    split
    · rw [Int.neg_mul]; simp
    · simp
  simp only [e1]
  rw [← owp_shift (iv s (nt n)) k (-(e + k))]
  congr 1; omega
theorem pow_bound {n k v b : Nat} (h : n * 2 ^ k = v) (h0 : 0 < v) (hv : v < 2 ^ b) : k < b ∧ 0 < n := by
  have hn : 0 < n := by
    rcases Nat.eq_zero_or_pos n with h1 | h1
    · subst h1; simp at h; omega
    · exact h1
  refine ⟨?_, hn⟩
  rcases Nat.lt_or_ge k b with h1 | h1
  · exact h1
  · have h2 := Nat.pow_le_pow_right (show 0 < 2 by decide) h1
    have h3 : 2 ^ k ≤ n * 2 ^ k := Nat.le_mul_of_pos_left _ hn
    omega

theorem rof2_two (w : World) : Calls Tryz.prog 41 #[.int .i64 2] w fun e w' => e = .returned (.agg #[.bool false, .string (bs (nt 2))]) ∧ Below w.heap.size w w' := rof2_nat 2 w (by decide)

theorem nt_last {n : Nat} (h : 0 < n) : ∃ M c, nt n = M ++ [c] ∧ M = nt (n / 256) ∧ c.toNat = n % 256 := ⟨_, _, nt_pos h, rfl, byte_mod n⟩

set_option maxHeartbeats 2000000 in
set_option maxRecDepth 100000 in
theorem rmake_zero (s : Bool) (l : List UInt8) (e : Int) (w : World) (hl : l.length ≤ 1048576) (h0 : nv l = 0) :
    Calls Tryz.prog 40 #[.agg #[.bool s, .string (bs l)], .int .i64 e] w fun r w' => r = .returned (numV 0) ∧ Below w.heap.size w w' := by
  have hf := fun W => rform_any s l W (by omega)
  simp only [h0, nt_zero, List.isEmpty_nil, Bool.not_true, Bool.and_false] at hf
  have Hf := Lib.hid hf
  have hem : (bs []).toList.isEmpty = true := by rw [bs_empty]; rfl
  clear hf h0
  obtain ⟨W, hW_W⟩ : ∃ W, ((w.alloc (.cells #[.bool s, .string (bs l)] 34)).alloc (.cells #[.bool false, .string ⟨#[]⟩, .int .i64 0] 36)) = W := ⟨_, rfl⟩
  have Hb : Hid (Below w.heap.size w W) := by rw [← hW_W]; exact (((Below.refl _ _).alloc (Nat.le_refl _) _).alloc (by simp <;> omega) _)
  have Hm : Hid (Blk W (w.heap.size) 34 [.bool s, .string (bs l)]) := by rw [← hW_W]; exact (Blk.newAt _ _ _ (by simp)).alloc _
  have Hr : Hid (Blk W (w.heap.size + 1) 36 [.bool false, .string ⟨#[]⟩, .int .i64 0]) := by rw [← hW_W]; exact Blk.newAt _ _ _ (by simp)
  have m0 : W.cell? ⟨w.heap.size, 0, none⟩ = some (.bool s) := Hm.out.cell 0
  have fm0 : W.frozen? ⟨w.heap.size, 0, none⟩ = false := Hm.out.free 0
  have m1 : W.cell? ⟨w.heap.size, 1, none⟩ = some (.string (bs l)) := Hm.out.cell 1
  have fm1 : W.frozen? ⟨w.heap.size, 1, none⟩ = false := Hm.out.free 1
  have r0 : W.cell? ⟨w.heap.size + 1, 0, none⟩ = some (.bool false) := Hr.out.cell 0
  have fr0 : W.frozen? ⟨w.heap.size + 1, 0, none⟩ = false := Hr.out.free 0
  have r1 : W.cell? ⟨w.heap.size + 1, 1, none⟩ = some (.string ⟨#[]⟩) := Hr.out.cell 1
  have fr1 : W.frozen? ⟨w.heap.size + 1, 1, none⟩ = false := Hr.out.free 1
  have r2 : W.cell? ⟨w.heap.size + 1, 2, none⟩ = some (.int .i64 0) := Hr.out.cell 2
  have fr2 : W.frozen? ⟨w.heap.size + 1, 2, none⟩ = false := Hr.out.free 2
  go_enter Tryz.func40, Tryz.ntmps40
  go_wp2_with fail
  refine (Hf.out _).mono ?_
  rintro e w1 ⟨rfl, hbn⟩
  clear m0 fm0 m1 fm1
  clear r0 fr0 r1 fr1 r2 fr2
  replace Hm := Lib.hid (Hm.out.below hbn)
  replace Hr := Lib.hid (Hr.out.below hbn)
  have m0 : w1.cell? ⟨w.heap.size, 0, none⟩ = some (.bool s) := Hm.out.cell 0
  have fm0 : w1.frozen? ⟨w.heap.size, 0, none⟩ = false := Hm.out.free 0
  have m1 : w1.cell? ⟨w.heap.size, 1, none⟩ = some (.string (bs l)) := Hm.out.cell 1
  have fm1 : w1.frozen? ⟨w.heap.size, 1, none⟩ = false := Hm.out.free 1
  have r0 : w1.cell? ⟨w.heap.size + 1, 0, none⟩ = some (.bool false) := Hr.out.cell 0
  have fr0 : w1.frozen? ⟨w.heap.size + 1, 0, none⟩ = false := Hr.out.free 0
  have r1 : w1.cell? ⟨w.heap.size + 1, 1, none⟩ = some (.string ⟨#[]⟩) := Hr.out.cell 1
  have fr1 : w1.frozen? ⟨w.heap.size + 1, 1, none⟩ = false := Hr.out.free 1
  have r2 : w1.cell? ⟨w.heap.size + 1, 2, none⟩ = some (.int .i64 0) := Hr.out.cell 2
  have fr2 : w1.frozen? ⟨w.heap.size + 1, 2, none⟩ = false := Hr.out.free 2
  replace Hb := Lib.hid (bnext Hb.out hbn); clear hbn
  go_wp2
  refine bodyPost_ret (v := .agg #[.bool false, .string ⟨#[]⟩, .int .i64 0]) (by simp [results, Tryz.results40, go_sem, r0, r1, r2]) rfl ⟨rfl, ?_⟩
  (repeat first | exact Hb.out | (refine Below.setCell ?_ (by have := Hb.out.size; first | (dsimp only; omega) | (show _ ≤ _; omega) | (simp <;> omega)) _) | refine Below.drew ?_)

set_option maxHeartbeats 4000000 in
set_option maxRecDepth 100000 in
theorem rmake_pos (s : Bool) (l : List UInt8) (e : Int) (D : Dyadic) (hD : dval (s, l, e) = D) (w : World) (hl : l.length ≤ 1048576) (he : -1099511627776 ≤ e ∧ e ≤ 1099511627776) (h0 : 0 < nv l) :
    Calls Tryz.prog 40 #[.agg #[.bool s, .string (bs l)], .int .i64 e] w fun r w' => r = .returned (numV D) ∧ Below w.heap.size w w' := by
  have hf := fun W => rform_any s l W (by omega)
  have e3 : (nt (nv l)).isEmpty = false := by
    have := nt_ne_nil h0
    cases h : nt (nv l) with
    | nil => exact absurd h this
    | cons a b => rfl
  rw [e3] at hf
  simp only [Bool.not_false, Bool.and_true] at hf
  have hvb := nv_bits l
  obtain ⟨v, hv⟩ : ∃ v, nv l = v := ⟨_, rfl⟩
  rw [hv] at h0 hvb
  simp only [hv] at hf
  have hup : ∀ n k : Nat, n * 2 ^ k = v → dval (s, nt n, e + k) = D := fun n k h => by rw [← hD]; exact dval_up s l n k e (by rw [hv]; exact h)
  obtain ⟨Bn, hBn⟩ : ∃ Bn, 8 * l.length = Bn := ⟨_, rfl⟩
  have hpb : ∀ n k : Nat, n * 2 ^ k = v → k < Bn ∧ 0 < n := fun n k h => by rw [← hBn]; exact pow_bound h h0 hvb
  have hBl : Bn ≤ 8388608 := by omega
  have Hf := Lib.hid hf; have Hup := Lib.hid hup; have Hpb := Lib.hid hpb
  have hlen0 : (bs (nt v)).toList.isEmpty = false := by rw [bs_empty, ← hv]; exact e3
  have hntl : ∀ n k : Nat, n * 2 ^ k = v → (nt n).length ≤ 1048576 := fun n k h => by
    refine Nat.le_trans (nt_length_le (Nat.lt_of_le_of_lt (Nat.le_mul_of_pos_right n (Nat.pow_pos (n := k) (show 0 < 2 by decide))) ?_)) hl
    rw [h, ← hv]; exact nv_lt l
  have Hntl := Lib.hid hntl
  clear hf e3 hvb hup hpb hBn hD hv h0 hntl
  obtain ⟨W, hW_W⟩ : ∃ W, ((w.alloc (.cells #[.bool s, .string (bs l)] 34)).alloc (.cells #[.bool false, .string ⟨#[]⟩, .int .i64 0] 36)) = W := ⟨_, rfl⟩
  have Hb : Hid (Below w.heap.size w W) := by rw [← hW_W]; exact (((Below.refl _ _).alloc (Nat.le_refl _) _).alloc (by simp <;> omega) _)
  have Hm : Hid (Blk W (w.heap.size) 34 [.bool s, .string (bs l)]) := by rw [← hW_W]; exact (Blk.newAt _ _ _ (by simp)).alloc _
  have Hr : Hid (Blk W (w.heap.size + 1) 36 [.bool false, .string ⟨#[]⟩, .int .i64 0]) := by rw [← hW_W]; exact Blk.newAt _ _ _ (by simp)
  have m0 : W.cell? ⟨w.heap.size, 0, none⟩ = some (.bool s) := Hm.out.cell 0
  have fm0 : W.frozen? ⟨w.heap.size, 0, none⟩ = false := Hm.out.free 0
  have m1 : W.cell? ⟨w.heap.size, 1, none⟩ = some (.string (bs l)) := Hm.out.cell 1
  have fm1 : W.frozen? ⟨w.heap.size, 1, none⟩ = false := Hm.out.free 1
  have r0 : W.cell? ⟨w.heap.size + 1, 0, none⟩ = some (.bool false) := Hr.out.cell 0
  have fr0 : W.frozen? ⟨w.heap.size + 1, 0, none⟩ = false := Hr.out.free 0
  have r1 : W.cell? ⟨w.heap.size + 1, 1, none⟩ = some (.string ⟨#[]⟩) := Hr.out.cell 1
  have fr1 : W.frozen? ⟨w.heap.size + 1, 1, none⟩ = false := Hr.out.free 1
  have r2 : W.cell? ⟨w.heap.size + 1, 2, none⟩ = some (.int .i64 0) := Hr.out.cell 2
  have fr2 : W.frozen? ⟨w.heap.size + 1, 2, none⟩ = false := Hr.out.free 2
  go_enter Tryz.func40, Tryz.ntmps40
  go_wp2_with fail
  refine (Hf.out _).mono ?_
  rintro e w1 ⟨rfl, hbn⟩
  clear m0 fm0 m1 fm1
  clear r0 fr0 r1 fr1 r2 fr2
  replace Hm := Lib.hid (Hm.out.below hbn)
  replace Hr := Lib.hid (Hr.out.below hbn)
  have m0 : w1.cell? ⟨w.heap.size, 0, none⟩ = some (.bool s) := Hm.out.cell 0
  have fm0 : w1.frozen? ⟨w.heap.size, 0, none⟩ = false := Hm.out.free 0
  have m1 : w1.cell? ⟨w.heap.size, 1, none⟩ = some (.string (bs l)) := Hm.out.cell 1
  have fm1 : w1.frozen? ⟨w.heap.size, 1, none⟩ = false := Hm.out.free 1
  have r0 : w1.cell? ⟨w.heap.size + 1, 0, none⟩ = some (.bool false) := Hr.out.cell 0
  have fr0 : w1.frozen? ⟨w.heap.size + 1, 0, none⟩ = false := Hr.out.free 0
  have r1 : w1.cell? ⟨w.heap.size + 1, 1, none⟩ = some (.string ⟨#[]⟩) := Hr.out.cell 1
  have fr1 : w1.frozen? ⟨w.heap.size + 1, 1, none⟩ = false := Hr.out.free 1
  have r2 : w1.cell? ⟨w.heap.size + 1, 2, none⟩ = some (.int .i64 0) := Hr.out.cell 2
  have fr2 : w1.frozen? ⟨w.heap.size + 1, 2, none⟩ = false := Hr.out.free 2
  replace Hb := Lib.hid (bnext Hb.out hbn); clear hbn
  go_wp2_with fail
  clear m0 fm0 m1 fm1
  clear r0 fr0 r1 fr1 r2 fr2
  first | refine wp_world (fun w2 => Blk w2 (w.heap.size) 34 [.bool s, .string (bs (nt v))] ∧ Blk w2 (w.heap.size + 1) 36 [.bool false, .string ⟨#[]⟩, .int .i64 0] ∧ Below w.heap.size w w2) ⟨((Hm.out.set 0 _).set 1 _), ((Hr.out.set_other ⟨w.heap.size, 0, none⟩ (by first | (dsimp only; omega) | (show _ ≠ _; omega) | (simp <;> omega)) _).set_other ⟨w.heap.size, 1, none⟩ (by first | (dsimp only; omega) | (show _ ≠ _; omega) | (simp <;> omega)) _), ((Hb.out.setCell (p := ⟨w.heap.size, 0, none⟩) (by have := Hb.out.size; first | (dsimp only; omega) | (show _ ≤ _; omega) | (simp <;> omega)) _).setCell (p := ⟨w.heap.size, 1, none⟩) (by have := Hb.out.size; first | (dsimp only; omega) | (show _ ≤ _; omega) | (simp <;> omega)) _)⟩ ?_ | refine calls_world (fun w2 => Blk w2 (w.heap.size) 34 [.bool s, .string (bs (nt v))] ∧ Blk w2 (w.heap.size + 1) 36 [.bool false, .string ⟨#[]⟩, .int .i64 0] ∧ Below w.heap.size w w2) ⟨((Hm.out.set 0 _).set 1 _), ((Hr.out.set_other ⟨w.heap.size, 0, none⟩ (by first | (dsimp only; omega) | (show _ ≠ _; omega) | (simp <;> omega)) _).set_other ⟨w.heap.size, 1, none⟩ (by first | (dsimp only; omega) | (show _ ≠ _; omega) | (simp <;> omega)) _), ((Hb.out.setCell (p := ⟨w.heap.size, 0, none⟩) (by have := Hb.out.size; first | (dsimp only; omega) | (show _ ≤ _; omega) | (simp <;> omega)) _).setCell (p := ⟨w.heap.size, 1, none⟩) (by have := Hb.out.size; first | (dsimp only; omega) | (show _ ≤ _; omega) | (simp <;> omega)) _)⟩ ?_
  rintro w2 ⟨qm, qr, hbn⟩
  replace Hm := Lib.hid qm; clear qm
  replace Hr := Lib.hid qr; clear qr
  have m0 : w2.cell? ⟨w.heap.size, 0, none⟩ = some (.bool s) := Hm.out.cell 0
  have fm0 : w2.frozen? ⟨w.heap.size, 0, none⟩ = false := Hm.out.free 0
  have m1 : w2.cell? ⟨w.heap.size, 1, none⟩ = some (.string (bs (nt v))) := Hm.out.cell 1
  have fm1 : w2.frozen? ⟨w.heap.size, 1, none⟩ = false := Hm.out.free 1
  have r0 : w2.cell? ⟨w.heap.size + 1, 0, none⟩ = some (.bool false) := Hr.out.cell 0
  have fr0 : w2.frozen? ⟨w.heap.size + 1, 0, none⟩ = false := Hr.out.free 0
  have r1 : w2.cell? ⟨w.heap.size + 1, 1, none⟩ = some (.string ⟨#[]⟩) := Hr.out.cell 1
  have fr1 : w2.frozen? ⟨w.heap.size + 1, 1, none⟩ = false := Hr.out.free 1
  have r2 : w2.cell? ⟨w.heap.size + 1, 2, none⟩ = some (.int .i64 0) := Hr.out.cell 2
  have fr2 : w2.frozen? ⟨w.heap.size + 1, 2, none⟩ = false := Hr.out.free 2
  replace Hb := Lib.hid hbn; clear hbn
  clear m0 m1 fm0 fm1 r0 r1 r2 fr0 fr1 fr2
  have lm := Hm.out.lt; have lr := Hr.out.lt
  go_loopw [1] (fun x wr => ∃ n k : Nat, n * 2 ^ k = v ∧ x = .int .i64 (e + k) ∧ Blk wr w.heap.size 34 [.bool s, .string (bs (nt n))] ∧ Blk wr (w.heap.size + 1) 36 [.bool false, .string ⟨#[]⟩, .int .i64 0] ∧ Below w.heap.size w wr) (fun x _ => (e + Bn + 100 - intOf x).toNat)
  case atStart => exact ⟨v, 0, by simp, by simp, Hm.out, Hr.out, Hb.out⟩
  case round =>
    clear Hm Hr Hb
    obtain ⟨n, k, hnk, rfl, hm, hr, hb⟩ := hrel
    obtain ⟨hk, hn⟩ := Hpb.out n k hnk
    obtain ⟨M, c, hM, hMe, hc⟩ := nt_last hn
    have Hm := Lib.hid hm; have Hr := Lib.hid hr; have Hb := Lib.hid hb; have Hnk := Lib.hid hnk; have HM := Lib.hid hM; have HMe := Lib.hid hMe
    have hnl := Hntl.out n k hnk
    have hMl : M.length + 1 ≤ 1048576 := by rw [hM] at hnl; simpa using hnl
    have m1 : wr.cell? ⟨w.heap.size, 1, none⟩ = some (.string (bs (M ++ [c]))) := by rw [← hM]; exact hm.cell 1
    have fm1 : wr.frozen? ⟨w.heap.size, 1, none⟩ = false := hm.free 1
    have hsz : (bs (M ++ [c])).size = M.length + 1 := by rw [bs_size]; simp
    have hidx := idx_bs (M ++ [c]) (M.length : Int) M.length (by simp) rfl
    have hgc : (M ++ [c])[M.length]'(by simp) = c := by simp
    rw [hgc] at hidx
    obtain ⟨C, hC⟩ : ∃ C, c.toNat = C := ⟨_, rfl⟩
    rw [hC] at hidx hc
    have hsl := slice_bs_to M c (M.length : Int) rfl
    have Hc := Lib.hid hc
    clear hm hr hb hnk hM hMe hgc hc hnl
    by_cases hC0 : C = 0
    · subst hC0
      go_wp2
      go_roundw
      case rel =>
        refine ⟨n / 256, k + 8, ?_, by go_num, ?_, ?_, ?_⟩
        · have h1 := Hc.out; have h2 := Hnk.out
          rw [← h2, Nat.pow_add, show (2 : Nat) ^ 8 = 256 by rfl, Nat.mul_comm (2 ^ k), ← Nat.mul_assoc]
          congr 1; omega
        · rw [← HMe.out]; exact Hm.out.set 1 _
        · exact Hr.out.set_other ⟨w.heap.size, 1, none⟩ (by dsimp only; omega) _
        · exact Hb.out.setCell (by dsimp only; omega) _
      case measure => simp [intOf]; omega
    · have hC1 : ((C : Int) == 0) = false := by simp; omega
      go_wp2_with fail
      clear m1 fm1 hsz hidx hsl hMl hC1 hC hC0
      go_loopw [1] (fun x wr => ∃ n k : Nat, n * 2 ^ k = v ∧ x = .int .i64 (e + k) ∧ Blk wr w.heap.size 34 [.bool s, .string (bs (nt n))] ∧ Blk wr (w.heap.size + 1) 36 [.bool false, .string ⟨#[]⟩, .int .i64 0] ∧ Below w.heap.size w wr) (fun x _ => (e + Bn + 100 - intOf x).toNat)
      case atStart => exact ⟨n, k, Hnk.out, rfl, Hm.out, Hr.out, Hb.out⟩
      case round =>
        clear Hm Hr Hb Hnk HM HMe Hc hk hn
        obtain ⟨n, k, hnk, rfl, hm, hr, hb⟩ := hrel
        obtain ⟨hk, hn⟩ := Hpb.out n k hnk
        obtain ⟨M, c, hM, hMe, hc⟩ := nt_last hn
        have Hr := Lib.hid hr; have Hnk := Lib.hid hnk; have HM := Lib.hid hM
        have hnl := Hntl.out n k hnk
        have hMl : M.length + 1 ≤ 1048576 := by rw [hM] at hnl; simpa using hnl
        have Hm : Hid (Blk wr w.heap.size 34 [.bool s, .string (bs (M ++ [c]))]) := by rw [hM] at hm; exact hm
        have m0 : wr.cell? ⟨w.heap.size, 0, none⟩ = some (.bool s) := Hm.out.cell 0
        have m1 : wr.cell? ⟨w.heap.size, 1, none⟩ = some (.string (bs (M ++ [c]))) := Hm.out.cell 1
        have hsz : (bs (M ++ [c])).size = M.length + 1 := by rw [bs_size]; simp
        have hidx := idx_bs (M ++ [c]) (M.length : Int) M.length (by simp) rfl
        have hgc : (M ++ [c])[M.length]'(by simp) = c := by simp
        rw [hgc] at hidx
        obtain ⟨C, hC⟩ : ∃ C, c.toNat = C := ⟨_, rfl⟩
        rw [hC] at hidx hc
        have hbs0 := hb.size
        have Hb0 := Lib.hid hb
        clear hm hr hb hnk hMe hgc hC
        by_cases hev : n % 2 = 0
        · obtain ⟨n', rfl⟩ : ∃ n', n = 2 * n' := ⟨n / 2, by omega⟩
          have hrem : (C : Int) % 2 = 0 := by omega
          have hh := fun W => rhalf_any s n' W (by omega) (Nat.le_trans hnl (by decide))
          rw [hM] at hh
          have Hh := Lib.hid hh
          have Hb : Hid (Below wr.heap.size wr wr) := Below.refl _ _
          clear hh hM hnl hc
          go_wp2_with fail
          have lmm := Hm.out.lt; have lrr := Hr.out.lt
          go_region_with (first | (go_at_call 41; refine (rof2_two _).mono ?_; rintro e3 w3 ⟨rfl, hb3⟩; replace hb3 := bundrew hb3; have Hm3 := Lib.hid (Hm.out.below hb3); have m03 : w3.cell? ⟨w.heap.size, 0, none⟩ = some (.bool s) := Hm3.out.cell 0; have m13 : w3.cell? ⟨w.heap.size, 1, none⟩ = some (.string (bs (M ++ [c]))) := Hm3.out.cell 1) | (go_at_call 62; refine (Hh.out _).mono ?_; rintro e4 w4 ⟨rfl, hb4⟩; have Hm5 := Lib.hid (Hm3.out.below hb4); have m04 : w4.cell? ⟨w.heap.size, 0, none⟩ = some (.bool s) := Hm5.out.cell 0; have m14 : w4.cell? ⟨w.heap.size, 1, none⟩ = some (.string (bs (M ++ [c]))) := Hm5.out.cell 1; have fm04 := Hm5.out.free 0; have fm14 := Hm5.out.free 1))
          all_goals
            have HBm := Lib.hid (bnext (bnext Hb0.out hb3) hb4)
            have Hm4 := Lib.hid ((Hm5.out.set 0 (.bool s)).set 1 (.string (bs (nt n'))))
            have Hr4 := Lib.hid ((((Hr.out.below hb3).below hb4).set_other ⟨w.heap.size, 0, none⟩ (by dsimp only; omega) (.bool s)).set_other ⟨w.heap.size, 1, none⟩ (by dsimp only; omega) (.string (bs (nt n'))))
            clear m0 m1 m03 m13 m04 m14 fm04 fm14 hrem hidx hb3 hb4 Hm3 Hm5
            go_wp2
            go_roundw
            case rel =>
              refine ⟨n', k + 1, ?_, by go_num, Hm4.out, Hr4.out, ?_⟩
              · rw [← Hnk.out, Nat.pow_succ, Nat.mul_comm (2 ^ k) 2, ← Nat.mul_assoc, Nat.mul_comm n' 2]
              · exact (HBm.out.setCell (by dsimp only; omega) _).setCell (by dsimp only; omega) _
            case measure => simp [intOf]; omega
        · have hrem : ((C : Int) % 2 == 0) = false := by simp; omega
          have hod : n % 2 = 1 := by omega
          have hfin := canon_odd s n (e + k) hod
          rw [Hup.out n k Hnk.out, HM.out] at hfin
          have Hfin := Lib.hid hfin
          have r0 : wr.cell? ⟨w.heap.size + 1, 0, none⟩ = some (.bool false) := Hr.out.cell 0
          have r1 : wr.cell? ⟨w.heap.size + 1, 1, none⟩ = some (.string ⟨#[]⟩) := Hr.out.cell 1
          have r2 : wr.cell? ⟨w.heap.size + 1, 2, none⟩ = some (.int .i64 0) := Hr.out.cell 2
          have fr0 := Hr.out.free 0; have fr1 := Hr.out.free 1; have fr2 := Hr.out.free 2
          clear hM hnl hc hod hfin hev
          go_wp2
          refine bodyPost_ret (v := .agg #[.bool s, .string (bs (M ++ [c])), .int .i64 (e + k)]) (by simp [results, Tryz.results40, go_sem, r0, r1, r2]) rfl ⟨?_, ?_⟩
          · have h1 := Hfin.out
            unfold canon at h1
            simp only [Prod.mk.injEq] at h1
            rw [← h1.1, ← h1.2.1, ← h1.2.2]
          · exact (((Hb0.out.setCell (by dsimp only; omega) _).setCell (by dsimp only; omega) _).setCell (by dsimp only; omega) _)

theorem rmake_any (s : Bool) (l : List UInt8) (e : Int) (D : Dyadic) (hD : dval (s, l, e) = D) (w : World) (hl : l.length ≤ 1048576) (he : -1099511627776 ≤ e ∧ e ≤ 1099511627776) :
    Calls Tryz.prog 40 #[.agg #[.bool s, .string (bs l)], .int .i64 e] w fun r w' => r = .returned (numV D) ∧ Below w.heap.size w w' := by
  rcases Nat.eq_zero_or_pos (nv l) with h0 | h0
  · have : D = 0 := by rw [← hD]; exact dval_zero s l e (by unfold iv; rw [h0]; split <;> rfl)
    rw [this]; exact rmake_zero s l e w hl h0
  · exact rmake_pos s l e D hD w hl he h0
end Go.Proofs.YtidjljldhdckiaaGreatDoor
