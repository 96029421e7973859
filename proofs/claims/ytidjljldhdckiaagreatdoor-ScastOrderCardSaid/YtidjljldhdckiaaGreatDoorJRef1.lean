/- Package ogeeref01: Cut, Text, Of. -/
import Derived.Test.YtidjljldhdckiaaGreatDoorKRefM
import Derived.Test.YtidjljldhdckiaaGreatDoorKScast10
namespace Go.Proofs.YtidjljldhdckiaaGreatDoor
open Go.RowKit
attribute [local go_sem ↓] Go.wp_at_zero Go.wp_at_succ

/-- A slice that holds so many bits of a number, the lowest first. -/
def Bv (w : World) (x : Value) (n v : Nat) : Prop := v < 2 ^ n ∧ ((x = .slice none 0 0 ∧ n = 0) ∨ ∃ b o cap, x = .slice (some ⟨b, o, none⟩) n cap ∧ n ≤ cap ∧ ∀ j, j < n → w.cell? ⟨b, o + j, none⟩ = some (.int .u8 (bd v j : Int)))
theorem Bv.below {w w' : World} {x : Value} {n v : Nat} (h : Bv w x n v) (hb : Below w.heap.size w w') : Bv w' x n v := by
  refine ⟨h.1, ?_⟩
  rcases h.2 with h | ⟨b, o, cap, e, h1, hc⟩
  · exact .inl h
  · exact .inr ⟨b, o, cap, e, h1, fun j hj => cell_later hb (hc j hj)⟩
theorem Bv.of_own {w : World} {base : Nat} {e : TypeId} {x : Value} {n v : Nat} (h : w.ownsRow base e 1 x n (ubs n (bd v))) (hx : v < 2 ^ n) : Bv w x n v := by
  refine ⟨hx, ?_⟩
  rcases h.2 with ⟨rfl, rfl⟩ | ⟨g, cap, cur, rfl, hb, hg, h2, h3, h4, h5⟩
  · exact .inl ⟨rfl, rfl⟩
  · refine .inr ⟨g, 0, cap, rfl, h2, fun j hj => ?_⟩
    have := h.cells (g := g) rfl j _ (ubs_get n (bd v) j hj)
    have e2 : ((⟨g, 0, none⟩ : Addr).add j) = ⟨g, j, none⟩ := by simp [Addr.add]; omega
    rw [Nat.zero_add, ← e2]; exact this
theorem Bv.of_blk {w : World} {b : Nat} {t : TypeId} {n v : Nat} (h : Blk w b t (ubs n (bd v))) (hv : v < 2 ^ n) : Bv w (.slice (some ⟨b, 0, none⟩) n n) n v :=
  ⟨hv, .inr ⟨b, 0, n, rfl, Nat.le_refl _, fun j hj => by rw [Nat.zero_add, h.cell, ubs_get _ _ _ hj]⟩⟩

set_option maxHeartbeats 1000000 in
theorem rcut_at (b o n cap v : Nat) (w : World) (hm : n ≤ 1099511627776) (hcap : n ≤ cap) (hc : ∀ j, j < n → w.cell? ⟨b, o + j, none⟩ = some (.int .u8 (bd v j : Int))) (hv : v < 2 ^ n) :
    Calls Tryz.prog 103 #[.slice (some ⟨b, o, none⟩) n cap] w fun e w' => e = .returned (.slice (some ⟨b, o, none⟩) (blen v) cap) ∧ w = w' := by
  have Hc := Lib.hid hc; clear hc
  have Hv := Lib.hid hv; clear hv
  go_enter Tryz.func103, Tryz.ntmps103
  go_wp2_with fail
  go_loop [3] (fun x => ∃ k : Nat, k ≤ n ∧ v < 2 ^ k ∧ x = .int .i64 (k : Int)) (fun x => (intOf x).toNat)
  case atStart => exact ⟨n, Nat.le_refl _, Hv.out, rfl⟩
  case round =>
    obtain ⟨k, hk, hvk, rfl⟩ := hrel
    have Hvk := Lib.hid hvk; clear hvk
    by_cases h0 : 0 < k
    · have hcell : w.cell? ⟨b, o + (k - 1), none⟩ = some (.int .u8 (bd v (k - 1) : Int)) := Hc.out _ (by omega)
      have hix := ixs (t := 67) (e := 5) (sz := 1) Tryz.underlying67 (by kernel_rfl) n cap (k - 1) ((k : Int) - 1) (show (some ⟨b, o, none⟩ : Option Addr) = some ⟨b, o, none⟩ from rfl) (by omega) (by omega)
      rw [Nat.mul_one] at hix
      by_cases hd : bd v (k - 1) = 0
      · have hd' : ((bd v (k - 1) : Int) == 0) = true := by simp [hd]
        have Hd := Lib.hid hd; clear hd
        go_wp2
        refine ⟨⟨k - 1, by omega, ?_, by go_num⟩, by simp [intOf]; omega⟩
        refine btop_zero ?_ Hd.out
        rw [show k - 1 + 1 = k by omega]; exact Hvk.out
      · have hd' : ((bd v (k - 1) : Int) == 0) = false := by simp [hd]
        have Hd := Lib.hid hd; clear hd
        go_wp2
        go_ret
        have e : blen v = k := by
          have := blen_eq (v := v) (k := k - 1) (by rw [show k - 1 + 1 = k by omega]; exact Hvk.out) (btop_pos Hd.out)
          omega
        rw [e]; exact ⟨rfl, rfl⟩
    · obtain rfl : k = 0 := by omega
      go_wp2
      go_ret
      have e : blen v = 0 := by
        have := Hvk.out; simp at this; subst this; rfl
      rw [e]; exact ⟨rfl, rfl⟩

set_option maxHeartbeats 400000 in
theorem rcut_nil (w : World) :
    Calls Tryz.prog 103 #[.slice none 0 0] w fun e w' => e = .returned (.slice none 0 0) ∧ w = w' := by
  go_enter Tryz.func103, Tryz.ntmps103
  go_wp2_with fail
  refine wp_loop_rounds 1 ?_
  rw [rounds_succ]
  go_wp2
  go_ret
  exact ⟨rfl, rfl⟩

/-- Where a slice lies. -/
def LiesV (x : Value) (lo : Nat) : Prop := ∀ b o n c, x = .slice (some ⟨b, o, none⟩) n c → lo ≤ b

theorem rcut_any (x : Value) (n v : Nat) (w : World) (hm : n ≤ 1099511627776) (hx : Bv w x n v) :
    Calls Tryz.prog 103 #[x] w fun e w' => (∃ y, e = .returned y ∧ Bv w y (blen v) v ∧ ∀ lo, LiesV x lo → LiesV y lo) ∧ w = w' := by
  have hl := blen_le hx.1
  rcases hx.2 with ⟨rfl, rfl⟩ | ⟨b, o, cap, rfl, h1, hc⟩
  · refine (rcut_nil w).mono ?_
    rintro e w' ⟨rfl, rfl⟩
    exact ⟨⟨_, rfl, ⟨blen_lt v, .inl ⟨rfl, by omega⟩⟩, fun _ h => h⟩, rfl⟩
  · refine (rcut_at b o n cap v w hm h1 hc hx.1).mono ?_
    rintro e w' ⟨rfl, rfl⟩
    exact ⟨⟨_, rfl, ⟨blen_lt v, .inr ⟨b, o, cap, rfl, by omega, fun j hj => hc j (by omega)⟩⟩, fun lo h b' o' n' c' e => by cases e; exact h _ _ _ _ rfl⟩, rfl⟩

set_option maxHeartbeats 2000000 in
set_option maxRecDepth 100000 in
theorem rtext_at (b o n cap v : Nat) (w : World) (hm : n ≤ 1099511627776) (hcap : n ≤ cap) (hc : ∀ j, j < n → w.cell? ⟨b, o + j, none⟩ = some (.int .u8 (bd v j : Int))) (hv : v < 2 ^ n) :
    Calls Tryz.prog 81 #[.slice (some ⟨b, o, none⟩) n cap] w fun e w' => e = .returned (.string (bs (nt v))) ∧ Below w.heap.size w w' := by
  have hle := blen_le hv
  have hcut := rcut_at b o n cap v w hm hcap hc hv
  have hvl := blen_lt v
  have Hfin : Hid ((List.range ((blen v + 7) / 8)).map (fun j => UInt8.ofNat (v / 256 ^ ((blen v + 7) / 8 - 1 - j) % 256)) = nt v) := nt_range _ _ (blen_bytes v).1 (blen_bytes v).2
  generalize hL : blen v = L at *
  obtain ⟨nb, hnb⟩ : ∃ nb, (L + 7) / 8 = nb := ⟨_, rfl⟩
  have hmk := mk_bytes (((L : Int) + 7) / 8) nb (by omega) (by omega)
  have hnI : ((L : Int) + 7) / 8 = (nb : Int) := by omega
  rw [hnI] at hmk
  rw [hnb] at Hfin
  have Hcut := Lib.hid hcut; have Hc := Lib.hid hc; have Hv := Lib.hid hv; have Hvl := Lib.hid hvl; have HL := Lib.hid hL
  clear hcut hc hv hvl hL
  go_enter Tryz.func81, Tryz.ntmps81
  go_wp2_with fail
  refine Hcut.out.mono ?_; rintro e w' ⟨rfl, rfl⟩
  go_wp2_with fail
  go_loopw [4] (fun i wr => ∃ k : Nat, k ≤ L ∧ i = .int .i64 (k : Int) ∧ Blk wr w.heap.size 5 (ubs nb (fun j => v % 2 ^ k / 256 ^ (nb - 1 - j) % 256)) ∧ Below w.heap.size w wr) (fun i _ => L - (intOf i).toNat)
  case atStart =>
    refine ⟨0, Nat.zero_le _, rfl, ?_, (Below.refl _ _).alloc (Nat.le_refl _) _⟩
    have e : ubs nb (fun j => v % 2 ^ 0 / 256 ^ (nb - 1 - j) % 256) = ubs nb fun _ => 0 := ubs_congr fun j hj => by simp [Nat.mod_one]
    rw [e]; exact Blk.new _ _ _
  case round =>
    obtain ⟨k, hk, rfl, hB, hb⟩ := hrel
    by_cases hlt : k < L
    · have hq : k / 8 < nb := by omega
      obtain ⟨Z, hZ⟩ : ∃ Z, bd v k = Z := ⟨_, rfl⟩
      have hZ1 : Z ≤ 1 := by rw [← hZ]; exact bd_le v k
      have hcx : wr.cell? ⟨b, o + k, none⟩ = some (.int .u8 (Z : Int)) := by rw [← hZ]; exact cell_later hb (Hc.out _ (by omega))
      obtain ⟨A, hA⟩ : ∃ A, v % 2 ^ k / 256 ^ (k / 8) % 256 = A := ⟨_, rfl⟩
      have hcell : wr.cell? ⟨w.heap.size, nb - 1 - k / 8, none⟩ = some (.int .u8 (A : Int)) := by
        rw [hB.cell, ubs_get _ _ _ (by omega), show nb - 1 - (nb - 1 - k / 8) = k / 8 by omega, hA]
      have hfree : wr.frozen? ⟨w.heap.size, nb - 1 - k / 8, none⟩ = false := hB.free _
      obtain ⟨hb1, hb2⟩ := byte_bit_at v k
      rw [hA, hZ] at hb1 hb2
      have hB1 := hB.set (nb - 1 - k / 8) (.int .u8 ((A + Z * 2 ^ (k % 8) : Nat) : Int))
      have hb3 := hb.setCell (p := ⟨w.heap.size, nb - 1 - k / 8, none⟩) (Nat.le_refl _) (.int .u8 ((A + Z * 2 ^ (k % 8) : Nat) : Int))
      rw [ubs_set, ubs_congr (g := fun j => v % 2 ^ (k + 1) / 256 ^ (nb - 1 - j) % 256) fun j hj => by
        by_cases hj1 : j = nb - 1 - k / 8
        · subst hj1; rw [if_pos rfl, show nb - 1 - (nb - 1 - k / 8) = k / 8 by omega, hb1]
        · rw [if_neg hj1, byte_bit_other v k _ (by omega)]] at hB1
      have Hend := Lib.hid hB1; have Hb := Lib.hid hb3
      clear hB hb hB1 hb3 hb1 hA hZ
      have He : Hid ((((A : Int) + (Z : Int) * 2 ^ (k % 8)) % 256) = ((A + Z * 2 ^ (k % 8) : Nat) : Int)) := by
        show _ = _
        have : ((Z : Int) * 2 ^ (k % 8)) = ((Z * 2 ^ (k % 8) : Nat) : Int) := by simp
        rw [this]; omega
      clear hb2
      go_wp2
      go_region
      go_wp2
      go_roundw
      case rel =>
        rw [He.out]
        exact ⟨k + 1, by omega, by go_num, Hend.out, Hb.out.drew⟩
      case measure => simp [intOf]; omega
    · obtain rfl : k = L := by omega
      rw [Nat.mod_eq_of_lt Hvl.out] at hB
      have hconv := to_string hB nb
      rw [Hfin.out] at hconv
      have Hb := Lib.hid hb; clear hb hB
      go_wp2
      go_ret
      exact ⟨rfl, Hb.out⟩

set_option maxHeartbeats 1000000 in
theorem rtext_nil (w : World) :
    Calls Tryz.prog 81 #[.slice none 0 0] w fun e w' => e = .returned (.string (bs [])) ∧ Below w.heap.size w w' := by
  have hmk := mk_bytes 0 0 rfl (by omega)
  have hconv := to_string (Blk.new w 5 (ubs 0 fun _ => 0)) 0
  go_enter Tryz.func81, Tryz.ntmps81
  go_wp2_with fail
  refine (rcut_nil w).mono ?_; rintro e w' ⟨rfl, rfl⟩
  go_wp2_with fail
  refine wp_loop_rounds 1 ?_
  rw [rounds_succ]
  go_wp2
  go_ret
  exact ⟨rfl, (Below.refl _ _).alloc (Nat.le_refl _) _⟩

theorem rtext_any (x : Value) (n v : Nat) (w : World) (hm : n ≤ 1099511627776) (hx : Bv w x n v) :
    Calls Tryz.prog 81 #[x] w fun e w' => e = .returned (.string (bs (nt v))) ∧ Below w.heap.size w w' := by
  rcases hx.2 with ⟨rfl, rfl⟩ | ⟨b, o, cap, rfl, h1, hc⟩
  · have h0 := hx.1
    obtain rfl : v = 0 := by simpa using h0
    exact rtext_nil w
  · exact rtext_at b o n cap v w hm h1 hc hx.1

theorem ubs_one (n : Nat) (f : Nat → Nat) : ubs (n + 1) f = ubs n f ++ [.int .u8 (f n : Int)] := by
  unfold ubs; rw [List.range_succ, List.map_append]; rfl

set_option maxHeartbeats 2000000 in
set_option maxRecDepth 100000 in
theorem rof_any (N : Nat) (w : World) (hN : N < WW) :
    Calls Tryz.prog 63 #[.int .u64 (N : Int)] w fun e w' => e = .returned (.string (bs (nt N))) ∧ Below w.heap.size w w' := by
  obtain ⟨i0, hi, hz0, hz1, hz2⟩ := info_parts Tryz.infoB
  have hNb : blen N ≤ 64 := blen_le (by rw [WW_two] at hN; exact hN)
  have hW := WW_def
  go_enter Tryz.func63, Tryz.ntmps63
  go_wp2_with fail
  go_loopw [0, 3] (fun u v wr => ∃ k : Nat, k ≤ blen N ∧ u = .int .u64 ((N / 2 ^ k : Nat) : Int) ∧ wr.ownsRow w.heap.size 5 1 v k (ubs k (bd N)) ∧ Below w.heap.size w wr) (fun u _ _ => (intOf u).toNat)
  case atStart => exact ⟨0, Nat.zero_le _, by simp, World.ownsRow_nil _ _ _ _, Below.refl _ _⟩
  case round =>
    obtain ⟨k, hk, rfl, hown, hb⟩ := hrel
    obtain ⟨M, hM⟩ : ∃ M, N / 2 ^ k = M := ⟨_, rfl⟩
    have hMl : M < 18446744073709551616 := by
      have := Nat.div_le_self N (2 ^ k); omega
    have HM := Lib.hid hM
    rw [hM]
    have hM2 : N / 2 ^ (k + 1) = M / 2 := by rw [Nat.pow_succ, ← Nat.div_div_eq_div_mul, hM]
    have hbd : bd N k = M % 2 := by unfold bd; rw [hM]
    have HM2 := Lib.hid hM2; have Hbd := Lib.hid hbd
    clear hM hM2 hbd hW hN
    by_cases h0 : 0 < M
    · have h01 : (0 : Int) < (M : Int) := by omega
      have hkl : k < blen N := by
        rcases Nat.lt_or_ge k (blen N) with h | h
        · exact h
        · have h1 : N < 2 ^ k := Nat.lt_of_lt_of_le (blen_lt N) (Nat.pow_le_pow_right (by decide) h)
          have := HM.out; rw [Nat.div_eq_of_lt h1] at this; omega
      have hs0 := hb.size
      have Hown := Lib.hid hown; clear hown
      go_wp2_with (first | (at_builtin; refine wpList_append_own _ rfl _ _ 67 rfl w.heap.size 5 i0 (.int .u8 0) 1 1 Tryz.underlying67 hi hz0 hz1 hz2 rfl (by decide) _ _ _ rfl (Hown.out.alloc _) ⟨wr.heap.size, 0, none⟩ 1 1 [.int .u8 ((M : Int) % 2)] rfl rfl (cell_one_new _ _ _) (by simp [Value.oneCell']) (by simp [maxLen]; omega) (by omega) (by simp; omega) ?_; intro v' w1 ho hg _; have Ho := Lib.hid ho; have Hg := Lib.hid hg; clear ho hg))
      go_roundw
      case rel =>
        refine ⟨k + 1, by omega, ?_, ?_, ?_⟩
        · rw [HM2.out]; go_num
        · rw [ubs_one, Hbd.out]
          have e : ((M % 2 : Nat) : Int) = (M : Int) % 2 := by omega
          rw [e]; exact Ho.out
        · exact (hb.alloc hs0 _).grown Hg.out (by simp; omega) (fun j e => ownsRow_base Hown.out j e)
      case measure => simp [intOf]; omega
    · obtain rfl : M = 0 := by omega
      have hkN : N < 2 ^ k := by
        have := HM.out
        exact (Nat.div_eq_zero_iff_lt (Nat.pow_pos (by decide))).1 this
      have Hbv := Lib.hid (Bv.of_own hown hkN); have Hb := Lib.hid hb
      clear hown hkN hb
      go_wp2_with fail
      refine (rtext_any u3 k N wr (by omega) Hbv.out).mono ?_
      rintro e w2 ⟨rfl, hb2⟩
      have Hb2 := Lib.hid hb2; clear hb2
      go_wp2
      go_ret
      exact ⟨rfl, bnext Hb.out Hb2.out⟩
end Go.Proofs.YtidjljldhdckiaaGreatDoor

/- Package ogeeref01: Bits, bit, Compare, Minus. -/
namespace Go.Proofs.YtidjljldhdckiaaGreatDoor
open Go.RowKit
attribute [local go_sem ↓] Go.wp_at_zero Go.wp_at_succ

theorem and_one8 (a : Nat) (ha : a < 256) : bits .and .u8 (a : Int) 1 = ((a % 2 : Nat) : Int) := by
  have h1 : (BitVec.ofInt 8 (a : Int)).toNat = a := by
    rw [BitVec.ofInt_natCast, BitVec.toNat_ofNat]; exact Nat.mod_eq_of_lt (by omega)
  show IntKind.u8.wrap ((BitVec.ofInt 8 (a : Int) &&& BitVec.ofInt 8 1).toNat : Int) = _
  rw [BitVec.toNat_and, h1, show (BitVec.ofInt 8 1).toNat = 1 from rfl, Nat.and_one_is_mod, IntKind.wrap_u8]
  omega

set_option maxHeartbeats 2000000 in
set_option maxRecDepth 100000 in
theorem rbits_any (l : List UInt8) (w : World) (hl : l.length ≤ 68719476736) :
    Calls Tryz.prog 82 #[.string (bs l)] w fun e w' => (∃ y, e = .returned y ∧ Bv w' y (blen (nv l)) (nv l)) ∧ Below w.heap.size w w' := by
  obtain ⟨i0, hi, hz0, hz1, hz2⟩ := info_parts Tryz.infoB
  have hsz : (bs l).size = l.length := bs_size l
  go_enter Tryz.func82, Tryz.ntmps82
  go_wp2_with fail
  go_loopw [3, 4, 5] (fun v i _ wr => ∃ m : Nat, m ≤ l.length ∧ i = .int .i64 ((l.length : Int) - 1 - (m : Int)) ∧ wr.ownsRow w.heap.size 5 1 v (8 * m) (ubs (8 * m) (bd (nv l))) ∧ Below w.heap.size w wr) (fun _ i _ _ => (intOf i + 1).toNat)
  case atStart => exact ⟨0, Nat.zero_le _, by go_num, World.ownsRow_nil _ _ _ _, Below.refl _ _⟩
  case round =>
    obtain ⟨m, hm, rfl, hown, hb⟩ := hrel
    have Hown := Lib.hid hown; have Hb := Lib.hid hb; clear hown hb
    by_cases hlt : m < l.length
    · have hge : (m : Int) ≤ (l.length : Int) - 1 := by omega
      have hidx := idx_bs l ((l.length : Int) - 1 - (m : Int)) (l.length - 1 - m) (by omega) (by omega)
      have Hbit : Hid (∀ k, k < 8 → l[l.length - 1 - m].toNat / 2 ^ k % 2 = bd (nv l) (8 * m + k)) := fun k hk => nv_bit l m k hlt hk
      have hC := (l[l.length - 1 - m]'(by omega)).toNat_lt
      generalize hCe : l[l.length - 1 - m].toNat = C at *
      clear hCe
      go_wp2_with fail
      go_loopw [3, 5] (fun v j wr => ∃ k : Nat, k ≤ 8 ∧ j = .int .i64 (k : Int) ∧ wr.ownsRow w.heap.size 5 1 v (8 * m + k) (ubs (8 * m + k) (bd (nv l))) ∧ Below w.heap.size w wr) (fun _ j _ => 8 - (intOf j).toNat)
      case atStart => exact ⟨0, Nat.zero_le _, rfl, Hown.out, Hb.out⟩
      case round =>
        clear Hown Hb
        obtain ⟨k, hk, rfl, hown, hb⟩ := hrel
        have Hown := Lib.hid hown; have Hb := Lib.hid hb; have hs0 := hb.size; clear hown hb
        by_cases hk8 : k < 8
        · obtain ⟨Z, hZ⟩ : ∃ Z, C / 2 ^ k % 2 = Z := ⟨_, rfl⟩
          have hbk := Hbit.out k hk8
          rw [hZ] at hbk
          have Hbk := Lib.hid hbk; clear hbk
          have hand : bits .and .u8 ((C : Int) / 2 ^ k) 1 = (Z : Int) := by
            have e : (C : Int) / 2 ^ k = ((C / 2 ^ k : Nat) : Int) := by simp
            have := Nat.div_le_self C (2 ^ k)
            rw [e, and_one8 _ (by omega), hZ]
          clear hZ
          go_wp2_with (first | (at_builtin; refine wpList_append_own _ rfl _ _ 67 rfl w.heap.size 5 i0 (.int .u8 0) 1 1 Tryz.underlying67 hi hz0 hz1 hz2 rfl (by decide) _ _ _ rfl (Hown.out.alloc _) ⟨wr.heap.size, 0, none⟩ 1 1 [.int .u8 (Z : Int)] rfl rfl (cell_one_new _ _ _) (by simp [Value.oneCell']) (by simp [maxLen]; omega) (by omega) (by simp; omega) ?_; intro v' w1 ho hg _; have Ho := Lib.hid ho; have Hg := Lib.hid hg; clear ho hg))
          go_roundw
          case rel =>
            refine ⟨k + 1, by omega, ?_, ?_, ?_⟩
            · go_num
            · rw [← Nat.add_assoc, ubs_one, ← Hbk.out]; exact Ho.out
            · exact (Hb.out.alloc hs0 _).grown Hg.out (by simp; omega) (fun j e => ownsRow_base Hown.out j e)
          case measure => simp [intOf]; omega
        · obtain rfl : k = 8 := by omega
          go_wp2
          go_roundw
          case rel => exact ⟨m + 1, by omega, by go_num, Hown.out, Hb.out⟩
          case measure => simp [intOf]; omega
    · obtain rfl : m = l.length := by omega
      have Hbv := Lib.hid (Bv.of_own Hown.out (nv_bits l))
      clear hlt
      go_wp2_with fail
      refine (rcut_any u3 (8 * l.length) (nv l) wr (by omega) Hbv.out).mono ?_
      rintro e w2 ⟨⟨y, rfl, hy, _⟩, rfl⟩
      have Hy := Lib.hid hy; clear hy
      go_wp2
      go_ret
      exact ⟨⟨_, rfl, Hy.out⟩, Hb.out⟩

set_option maxHeartbeats 400000 in
theorem rbit_any (x : Value) (n v i : Nat) (w : World) (hx : Bv w x n v) (hi : i ≤ 1099511627776) (hn : n ≤ 1099511627776) :
    Calls Tryz.prog 127 #[x, .int .i64 (i : Int)] w fun e w' => e = .returned (.int .u8 (bd v i : Int)) ∧ w = w' := by
  obtain ⟨hv, h⟩ := hx
  by_cases hlt : i < n
  · rcases h with ⟨rfl, h0⟩ | ⟨b, o, cap, rfl, h1, hc⟩
    · omega
    · have hcell := hc i hlt
      have hix := ixs (t := 67) (e := 5) (sz := 1) Tryz.underlying67 (by kernel_rfl) n cap i (i : Int) (show (some ⟨b, o, none⟩ : Option Addr) = some ⟨b, o, none⟩ from rfl) hlt rfl
      rw [Nat.mul_one] at hix
      clear hc hv
      go_enter Tryz.func127, Tryz.ntmps127
      go_wp2
      go_ret
      exact ⟨rfl, rfl⟩
  · have h0 : bd v i = 0 := bd_of_lt hv (by omega)
    have H0 := Lib.hid h0
    clear h0 hv
    rcases h with ⟨rfl, h0⟩ | ⟨b, o, cap, rfl, h1, hc⟩
    · subst h0
      go_enter Tryz.func127, Tryz.ntmps127
      go_wp2
      go_ret
      exact ⟨by rw [H0.out]; rfl, rfl⟩
    · clear hc
      go_enter Tryz.func127, Tryz.ntmps127
      go_wp2
      go_ret
      exact ⟨by rw [H0.out]; rfl, rfl⟩

theorem Bv.len {w : World} {x : Value} {n v : Nat} (h : Bv w x n v) : ∃ a cap, x = .slice a n cap := by
  rcases h.2 with ⟨rfl, rfl⟩ | ⟨b, o, cap, rfl, _⟩
  · exact ⟨_, _, rfl⟩
  · exact ⟨_, _, rfl⟩

set_option maxHeartbeats 2000000 in
set_option maxRecDepth 100000 in
theorem rcmp_any (x y : Value) (n m v u : Nat) (w : World) (hx : Bv w x n v) (hy : Bv w y m u) (hn : n ≤ 1099511627776) (hm : m ≤ 1099511627776) :
    Calls Tryz.prog 104 #[x, y] w fun e w' => e = .returned (.int .i64 (cmpI v u)) ∧ w = w' := by
  obtain ⟨a, cap, hxe⟩ := hx.len
  obtain ⟨a', cap', hye⟩ := hy.len
  have hbx := fun i (hi : i ≤ 1099511627776) => rbit_any x n v i w hx hi hn
  have hby := fun i (hi : i ≤ 1099511627776) => rbit_any y m u i w hy hi hm
  have hv := hx.1; have hu := hy.1
  subst hxe; subst hye
  have Hbx := Lib.hid hbx; have Hby := Lib.hid hby; have Hv := Lib.hid hv; have Hu := Lib.hid hu
  clear hbx hby hv hu hx hy
  obtain ⟨M, hM⟩ : ∃ M, max n m = M := ⟨_, rfl⟩
  have hMI : max (n : Int) (m : Int) = (M : Int) := by omega
  have Hst : Hid (v / 2 ^ M = u / 2 ^ M) := by
    show _ = _
    rw [Nat.div_eq_of_lt (Nat.lt_of_lt_of_le Hv.out (Nat.pow_le_pow_right (by decide) (by omega))), Nat.div_eq_of_lt (Nat.lt_of_lt_of_le Hu.out (Nat.pow_le_pow_right (by decide) (by omega)))]
  have hMl : M ≤ 1099511627776 := by omega
  clear hM
  go_enter Tryz.func104, Tryz.ntmps104
  go_wp2_with fail
  go_loop [5] (fun i => ∃ k : Nat, k ≤ M ∧ v / 2 ^ k = u / 2 ^ k ∧ i = .int .i64 ((k : Int) - 1)) (fun i => (intOf i + 1).toNat)
  case atStart => exact ⟨M, Nat.le_refl _, Hst.out, rfl⟩
  case round =>
    obtain ⟨k, hk, hvk, rfl⟩ := hrel
    have Hvk := Lib.hid hvk; clear hvk
    by_cases h0 : 0 < k
    · obtain ⟨j, rfl⟩ : ∃ j, k = j + 1 := ⟨k - 1, by omega⟩
      have hbx := Hbx.out j (by omega); have hby := Hby.out j (by omega)
      have Hlt := Lib.hid (fun h => bd_lt_of (v := v) (u := u) Hvk.out h)
      have Hgt := Lib.hid (fun h => bd_lt_of (v := u) (u := v) Hvk.out.symm h)
      have Heq := Lib.hid (fun h => bd_eq_of (v := v) (u := u) Hvk.out h)
      have hp1 := bd_le v j; have hq1 := bd_le u j
      generalize bd v j = p at *
      generalize bd u j = q at *
      have H1 := Lib.hid hbx; have H2 := Lib.hid hby
      clear hbx hby
      have hj : ((j + 1 : Nat) : Int) - 1 = (j : Int) := by omega
      rw [hj]
      clear hj h0
      go_wp2_with fail
      refine H1.out.mono ?_; rintro e w' ⟨rfl, rfl⟩
      go_wp2_with fail
      refine H2.out.mono ?_; rintro e w' ⟨rfl, rfl⟩
      by_cases hpq : p < q
      · have hpq' : (p : Int) < (q : Int) := by omega
        go_wp2
        go_ret
        have := Hlt.out hpq
        exact ⟨by unfold cmpI; rw [if_pos this]; rfl, rfl⟩
      · have hpq' : ¬ (p : Int) < (q : Int) := by omega
        go_wp2_with fail
        refine H1.out.mono ?_; rintro e w' ⟨rfl, rfl⟩
        go_wp2_with fail
        refine H2.out.mono ?_; rintro e w' ⟨rfl, rfl⟩
        by_cases hqp : q < p
        · have hqp' : (q : Int) < (p : Int) := by omega
          go_wp2
          go_ret
          have := Hgt.out hqp
          exact ⟨by unfold cmpI; rw [if_neg (by omega), if_pos this]; rfl, rfl⟩
        · have hqp' : ¬ (q : Int) < (p : Int) := by omega
          go_wp2
          refine ⟨⟨j, by omega, Heq.out (by omega), by go_num⟩, by simp [intOf]⟩
    · obtain rfl : k = 0 := by omega
      have he : v = u := by simpa using Hvk.out
      go_wp2
      go_ret
      exact ⟨by unfold cmpI; rw [if_neg (by omega), if_neg (by omega)]; rfl, rfl⟩

set_option maxHeartbeats 2000000 in
set_option maxRecDepth 100000 in
theorem rminus_any (x y : Value) (n m v u : Nat) (w : World) (hx : Bv w x n v) (hy : Bv w y m u) (hn : n ≤ 1099511627776) (hm : m ≤ 1099511627776) (huv : u ≤ v) :
    Calls Tryz.prog 105 #[x, y] w fun e w' => (∃ z, e = .returned z ∧ Bv w' z n (v - u) ∧ LiesV z w.heap.size) ∧ Below w.heap.size w w' := by
  obtain ⟨a, cap, hxe⟩ := hx.len
  obtain ⟨a', cap', hye⟩ := hy.len
  have hbx := fun W (hW : Below w.heap.size w W) i (hi : i ≤ 1099511627776) => rbit_any x n v i W (hx.below hW) hi hn
  have hby := fun W (hW : Below w.heap.size w W) i (hi : i ≤ 1099511627776) => rbit_any y m u i W (hy.below hW) hi hm
  have Hvn : Hid (v - u < 2 ^ n) := by show _ < _; have := hx.1; omega
  subst hxe; subst hye
  have Hbx := Lib.hid hbx; have Hby := Lib.hid hby; have Huv := Lib.hid huv
  clear hbx hby hx hy huv
  have hmk := mk_bytes (n : Int) n rfl (by omega)
  go_enter Tryz.func105, Tryz.ntmps105
  go_wp2_with fail
  go_loopw [6, 7, 8] (fun b i _ wr => ∃ k : Nat, k ≤ n ∧ i = .int .i64 (k : Int) ∧ b = .int .u8 (bb v u k : Int) ∧ Blk wr w.heap.size 5 (ubs n (fun j => if j < k then bd (v - u) j else 0)) ∧ Below w.heap.size w wr) (fun _ i _ _ => n - (intOf i).toNat)
  case atStart =>
    refine ⟨0, Nat.zero_le _, rfl, by rw [bb_zero]; rfl, ?_, (Below.refl _ _).alloc (Nat.le_refl _) _⟩
    have e : ubs n (fun j => if j < 0 then bd (v - u) j else 0) = ubs n fun _ => 0 := ubs_congr fun j hj => by rw [if_neg (by omega)]
    rw [e]; exact Blk.new _ _ _
  case round =>
    obtain ⟨k, hk, rfl, rfl, hB, hb⟩ := hrel
    by_cases hlt : k < n
    · have H1 := Lib.hid (Hbx.out wr hb k (by omega)); have H2 := Lib.hid (Hby.out wr hb k (by omega))
      have hs := bb_step v u k
      have hd := bb_digit v u k Huv.out
      have hp := bd_le v k; have hq := bd_le u k; have hr := bb_le v u k
      have hcell : wr.cell? ⟨w.heap.size, k, none⟩ = some (.int .u8 0) := by rw [hB.cell, ubs_get _ _ _ hlt, if_neg (by omega)]; rfl
      have hfree : wr.frozen? ⟨w.heap.size, k, none⟩ = false := hB.free _
      have hB1 := hB.set k (.int .u8 ((bd (v - u) k : Nat) : Int))
      rw [ubs_set, ubs_congr (g := fun j => if j < k + 1 then bd (v - u) j else 0) fun j hj => by
        by_cases e : j = k
        · subst e; rw [if_pos rfl, if_pos (by omega)]
        · rw [if_neg e]
          by_cases e2 : j < k
          · rw [if_pos e2, if_pos (by omega)]
          · rw [if_neg e2, if_neg (by omega)]] at hB1
      have Hend := Lib.hid hB1
      have Hb := Lib.hid (hb.setCell (p := ⟨w.heap.size, k, none⟩) (Nat.le_refl _) (.int .u8 ((bd (v - u) k : Nat) : Int)))
      clear hB hB1 hb
      generalize bd v k = p at *
      generalize bd u k = q at *
      generalize bb v u k = r at *
      generalize bd (v - u) k = z at *
      have Hs := Lib.hid hs; clear hs
      obtain ⟨S, hS⟩ : ∃ S, 2 + p - q - r = S := ⟨_, rfl⟩
      have hS3 : S ≤ 3 := by omega
      have hw1 : IntKind.u8.wrap (2 + (p : Int)) = 2 + (p : Int) := by rw [IntKind.wrap_u8]; omega
      have hw2 : IntKind.u8.wrap (2 + (p : Int) - (q : Int)) = 2 + (p : Int) - (q : Int) := by rw [IntKind.wrap_u8]; omega
      have hw3 : IntKind.u8.wrap (2 + (p : Int) - (q : Int) - (r : Int)) = (S : Int) := by rw [IntKind.wrap_u8]; omega
      have hand : bits .and .u8 (S : Int) 1 = (z : Int) := by rw [and_one8 S (by omega), ← hd]; omega
      have HS := Lib.hid hS; have Hd := Lib.hid hd
      clear hS hd
      go_wp2_with fail
      refine H1.out.mono ?_; rintro e w' ⟨rfl, rfl⟩
      go_wp2_with fail
      refine H2.out.mono ?_; rintro e w' ⟨rfl, rfl⟩
      go_wp2
      go_roundw
      case rel =>
        refine ⟨k + 1, by omega, by go_num, ?_, Hend.out, Hb.out⟩
        rw [Hs.out]
        have := HS.out
        congr 1
        split <;> omega
      case measure => simp [intOf]; omega
    · obtain rfl : k = n := by omega
      rw [ubs_congr (g := bd (v - u)) fun j hj => by rw [if_pos hj]] at hB
      have Hz := Lib.hid (Bv.of_blk hB Hvn.out); have Hb := Lib.hid hb
      clear hB hb
      go_wp2
      go_ret
      exact ⟨⟨_, rfl, Hz.out, fun b o n' c e => by cases e; exact Nat.le_refl _⟩, Hb.out⟩
end Go.Proofs.YtidjljldhdckiaaGreatDoor
