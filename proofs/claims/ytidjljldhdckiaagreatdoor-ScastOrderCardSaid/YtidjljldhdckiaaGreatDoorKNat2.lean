/- The limbs' functions, on. -/
import Derived.Test.YtidjljldhdckiaaGreatDoorKNat1
import Derived.Laws.CopyOwn
namespace Go.Proofs.YtidjljldhdckiaaGreatDoor
open Go.RowKit

theorem blen_top (v k : Nat) (h : v < WW ^ (k + 1)) (h0 : WW ^ k ≤ v) : blen v = 64 * k + blen (dg v k) ∧ blen (dg v k) ≤ 64 ∧ 0 < blen (dg v k) := by
  have hd : dg v k = v / WW ^ k := by
    unfold dg
    rw [Nat.mod_eq_of_lt]
    rw [Nat.div_lt_iff_lt_mul (WWp_pos k)]; rw [Nat.pow_succ, Nat.mul_comm] at h; exact h
  have hd0 : 0 < dg v k := by rw [hd]; exact Nat.div_pos h0 (WWp_pos k)
  have hl := dg_lt v k
  refine ⟨?_, blen_le (by rw [WW_two] at hl; exact hl), blen_pos hd0⟩
  have a1 := blen_lt (dg v k)
  have e : dg v k = 2 ^ (blen (dg v k) - 1) ∨ 2 ^ (blen (dg v k) - 1) ≤ dg v k := by
    right
    unfold blen; rw [if_neg (by omega)]; simp; exact Nat.log2_self_le (by omega)
  have a2 : 2 ^ (blen (dg v k) - 1) ≤ dg v k := by rcases e with e | e <;> omega
  have hm := Nat.mod_lt v (WWp_pos k)
  have hv := (Nat.mod_add_div v (WW ^ k)).symm
  rw [← hd] at hv
  generalize v % WW ^ k = r at hv hm
  have b1 : v < 2 ^ (64 * k + blen (dg v k)) := by
    rw [Nat.pow_add, ← WWp_two]
    have : WW ^ k * (dg v k + 1) ≤ WW ^ k * 2 ^ blen (dg v k) := Nat.mul_le_mul_left _ a1
    rw [Nat.mul_add] at this
    omega
  have b2 : 2 ^ (64 * k + blen (dg v k) - 1) ≤ v := by
    have := blen_pos hd0
    rw [show 64 * k + blen (dg v k) - 1 = 64 * k + (blen (dg v k) - 1) by omega, Nat.pow_add, ← WWp_two]
    have : WW ^ k * 2 ^ (blen (dg v k) - 1) ≤ WW ^ k * dg v k := Nat.mul_le_mul_left _ a2
    omega
  have c1 := blen_le b1
  have c2 := blen_ge b2
  omega

theorem ln_spec {v k : Nat} (h : ln v = k + 1) : v < WW ^ (k + 1) ∧ WW ^ k ≤ v := by
  refine ⟨by rw [← h]; exact lt_ln v, ?_⟩
  rcases Nat.lt_or_ge v (WW ^ k) with h1 | h1
  · have := ln_le h1; omega
  · exact h1

set_option maxHeartbeats 400000 in
theorem llen_any (b o n cap v : Nat) (w : World) (hm : n ≤ 1099511627776) (hcap : n ≤ cap) (hc : LimAt w b o n v) (hv : v < WW ^ n) :
    Calls Tryz.prog 114 #[.slice (some ⟨b, o, none⟩) n cap] w fun e w' => e = .returned (.int .i64 (blen v : Int)) ∧ w = w' := by
  have hle := ln_le hv
  have Hv := Lib.hid hv; clear hv
  rcases Nat.eq_zero_or_pos (ln v) with h0 | h0
  · have Hc := Lib.hid hc; clear hc
    have hv0 : v = 0 := by have := lt_ln v; rw [h0] at this; simpa using this
    subst hv0
    clear h0
    go_enter Tryz.func114, Tryz.ntmps114
    go_wp2_with (go_at_call 111; refine (cut_any b o n cap 0 _ hm hcap Hc.out Hv.out).mono ?_; rintro e w' ⟨rfl, rfl⟩; rw [ln_zero])
    go_ret
    exact ⟨rfl, rfl⟩
  · obtain ⟨k, hk⟩ : ∃ k, ln v = k + 1 := ⟨ln v - 1, by omega⟩
    obtain ⟨h1, h2⟩ := ln_spec hk
    obtain ⟨e1, e2, e3⟩ := blen_top v k h1 h2
    have hcell : w.cell? ⟨b, o + k, none⟩ = some (.int .u64 (dg v k : Int)) := hc _ (by omega)
    have Hc := Lib.hid hc; clear hc
    have He1 := Lib.hid e1
    have Hk := Lib.hid hk
    have hkn : k + 1 ≤ n := by omega
    clear h1 h2 h0 hle hk e1
    go_enter Tryz.func114, Tryz.ntmps114
    go_wp2_with (first
      | (go_at_call 111; refine (cut_any b o n cap v _ hm hcap Hc.out Hv.out).mono ?_; rintro e w' ⟨rfl, rfl⟩; rw [Hk.out])
      | (go_at_call 131; refine (lz64_any _ _ (dg_lt _ _)).mono ?_; rintro e w' ⟨rfl, rfl⟩))
    go_ret
    rw [He1.out]
    refine ⟨congrArg (fun z : Int => Ending.returned (.int .i64 z)) ?_, rfl⟩
    omega

set_option maxHeartbeats 400000 in
theorem llen_nil (a : Option Addr) (cap : Nat) (w : World) :
    Calls Tryz.prog 114 #[.slice a 0 cap] w fun e w' => e = .returned (.int .i64 0) ∧ w = w' := by
  go_enter Tryz.func114, Tryz.ntmps114
  go_wp2_with (go_at_call 111; refine (cut_nil cap a _).mono ?_; rintro e w' ⟨rfl, rfl⟩)
  go_ret
  exact ⟨rfl, rfl⟩

/-- How two numbers stand. -/
def cmpI (a b : Nat) : Int := if a < b then -1 else if b < a then 1 else 0

theorem dg_lt_of {v u k : Nat} (h : v / WW ^ (k + 1) = u / WW ^ (k + 1)) (hd : dg v k < dg u k) : v < u := by
  unfold dg at hd
  have e1 := (Nat.mod_add_div (v / WW ^ k) WW).symm
  have e2 := (Nat.mod_add_div (u / WW ^ k) WW).symm
  rw [Nat.pow_succ, ← Nat.div_div_eq_div_mul, ← Nat.div_div_eq_div_mul] at h
  have : v / WW ^ k < u / WW ^ k := by rw [e1, e2, h]; omega
  exact Nat.lt_of_div_lt_div this
theorem dg_eq_of {v u k : Nat} (h : v / WW ^ (k + 1) = u / WW ^ (k + 1)) (hd : dg v k = dg u k) : v / WW ^ k = u / WW ^ k := by
  unfold dg at hd
  have e1 := (Nat.mod_add_div (v / WW ^ k) WW).symm
  have e2 := (Nat.mod_add_div (u / WW ^ k) WW).symm
  rw [Nat.pow_succ, ← Nat.div_div_eq_div_mul, ← Nat.div_div_eq_div_mul] at h
  rw [e1, e2, h, hd]

theorem ln_lt_of {v u : Nat} (h : ln v < ln u) : v < u := by
  rcases Nat.lt_or_ge v u with h1 | h1
  · exact h1
  · have := ln_le (Nat.lt_of_le_of_lt h1 (lt_ln v)); omega

set_option maxHeartbeats 1000000 in
set_option maxRecDepth 100000 in
theorem lcmp_any (b o n cap v b2 o2 m cap2 u : Nat) (w : World) (hm : n ≤ 1099511627776) (hcap : n ≤ cap) (hc : LimAt w b o n v) (hv : v < WW ^ n)
    (hm2 : m ≤ 1099511627776) (hcap2 : m ≤ cap2) (hc2 : LimAt w b2 o2 m u) (hu : u < WW ^ m) :
    Calls Tryz.prog 119 #[.slice (some ⟨b, o, none⟩) n cap, .slice (some ⟨b2, o2, none⟩) m cap2] w fun e w' => e = .returned (.int .i64 (cmpI v u)) ∧ Below w.heap.size w w' := by
  have l1 := ln_le hv
  have l2 := ln_le hu
  have Hv := Lib.hid hv; clear hv
  have Hu := Lib.hid hu; clear hu
  have Hc := Lib.hid hc; clear hc
  have Hc2 := Lib.hid hc2; clear hc2
  have Kv := Lib.hid (lt_ln v)
  have Ku := Lib.hid (lt_ln u)
  by_cases hlt : ln v < ln u
  · have hf : (((ln v : Nat) : Int) != ((ln u : Nat) : Int)) = true := by rw [bne_iff_ne]; omega
    have Hres : Hid (cmpI v u = -1) := by show cmpI v u = -1; unfold cmpI; rw [if_pos (ln_lt_of hlt)]
    go_enter Tryz.func119, Tryz.ntmps119
    go_wp2_with fail
    refine (cut_any b o n cap v _ hm hcap Hc.out Hv.out).mono ?_; rintro e w' ⟨rfl, rfl⟩
    go_wp2_with fail
    refine (cut_any b2 o2 m cap2 u _ hm2 hcap2 Hc2.out Hu.out).mono ?_; rintro e w' ⟨rfl, rfl⟩
    go_wp2
    go_ret
    rw [Hres.out]
    exact ⟨rfl, Below.refl _ _⟩
  by_cases hgt : ln u < ln v
  · have hf : (((ln v : Nat) : Int) != ((ln u : Nat) : Int)) = true := by rw [bne_iff_ne]; omega
    have Hres : Hid (cmpI v u = 1) := by show cmpI v u = 1; have := ln_lt_of hgt; unfold cmpI; rw [if_neg (by omega), if_pos this]
    go_enter Tryz.func119, Tryz.ntmps119
    go_wp2_with fail
    refine (cut_any b o n cap v _ hm hcap Hc.out Hv.out).mono ?_; rintro e w' ⟨rfl, rfl⟩
    go_wp2_with fail
    refine (cut_any b2 o2 m cap2 u _ hm2 hcap2 Hc2.out Hu.out).mono ?_; rintro e w' ⟨rfl, rfl⟩
    go_wp2
    go_ret
    rw [Hres.out]
    exact ⟨rfl, Below.refl _ _⟩
  · have heq : ln v = ln u := by omega
    generalize hL : ln u = L at *
    have HL := Lib.hid hL; clear hL
    have Heq := Lib.hid heq; clear heq
    have hf : (((L : Nat) : Int) != ((L : Nat) : Int)) = false := by simp
    rw [Heq.out] at Kv l1
    go_enter Tryz.func119, Tryz.ntmps119
    go_wp2_with fail
    refine (cut_any b o n cap v _ hm hcap Hc.out Hv.out).mono ?_; rintro e w' ⟨rfl, rfl⟩; rw [Heq.out]
    go_wp2_with fail
    refine (cut_any b2 o2 m cap2 u _ hm2 hcap2 Hc2.out Hu.out).mono ?_; rintro e w' ⟨rfl, rfl⟩; rw [HL.out]
    go_wp2
    go_loopw [5] (fun i wr => ∃ k : Nat, k ≤ L ∧ i = .int .i64 ((k : Int) - 1) ∧ v / WW ^ k = u / WW ^ k ∧ Below w.heap.size w wr) (fun i _ => (intOf i + 1).toNat)
    case atStart => exact ⟨L, Nat.le_refl _, rfl, by rw [Nat.div_eq_of_lt Kv.out, Nat.div_eq_of_lt Ku.out], Below.refl _ _⟩
    case round =>
      obtain ⟨k, hk, rfl, hdiv, hb⟩ := hrel
      have Hdiv := Lib.hid hdiv; clear hdiv
      by_cases h0 : 0 < k
      · obtain ⟨j, rfl⟩ : ∃ j, k = j + 1 := ⟨k - 1, by omega⟩
        have c1 : wr.cell? ⟨b, o + j, none⟩ = some (.int .u64 (dg v j : Int)) := cell_later hb (Hc.out _ (by omega))
        have c2 : wr.cell? ⟨b2, o2 + j, none⟩ = some (.int .u64 (dg u j : Int)) := cell_later hb (Hc2.out _ (by omega))
        rw [show (((j + 1 : Nat) : Int) - 1) = (j : Int) by omega]
        have Hb := Lib.hid hb; clear hb
        rcases Nat.lt_trichotomy (dg v j) (dg u j) with hd | hd | hd
        · have Hres : Hid (cmpI v u = -1) := by show cmpI v u = -1; unfold cmpI; rw [if_pos (dg_lt_of Hdiv.out hd)]
          go_wp2
          go_region
          go_wp2
          go_ret
          rw [Hres.out]
          exact ⟨rfl, Hb.out.drew⟩
        · have Hd := Lib.hid (dg_eq_of Hdiv.out hd)
          rw [hd] at c1
          go_wp2
          go_region
          go_wp2
          go_region
          go_wp2
          go_roundw
          case rel => exact ⟨j, by omega, rfl, Hd.out, Hb.out.drew.drew⟩
          case measure => simp [intOf]
        · have Hres : Hid (cmpI v u = 1) := by show cmpI v u = 1; have := dg_lt_of Hdiv.out.symm hd; unfold cmpI; rw [if_neg (by omega), if_pos this]
          go_wp2
          go_region
          go_wp2
          go_region
          go_wp2
          go_ret
          rw [Hres.out]
          exact ⟨rfl, Hb.out.drew.drew⟩
      · obtain rfl : k = 0 := by omega
        have Hres : Hid (cmpI v u = 0) := by
          have := Hdiv.out; simp at this; subst this; show cmpI v v = 0; simp [cmpI]
        have Hb := Lib.hid hb; clear hb
        go_wp2
        go_ret
        rw [Hres.out]
        exact ⟨rfl, Hb.out⟩
theorem Tryz.infoU : (Tryz.prog.info? 118).map (fun i => (i.zero, i.size, i.bytes)) = some (some (.int .u64 0), 1, 8) := by kernel_rfl
theorem Tryz.infoB : (Tryz.prog.info? 5).map (fun i => (i.zero, i.size, i.bytes)) = some (some (.int .u8 0), 1, 1) := by kernel_rfl

theorem uls_zero (n : Nat) : List.replicate n (Value.int .u64 0) = uls n fun _ => 0 := by
  apply List.ext_getElem?
  intro j
  by_cases h : j < n
  · rw [uls_get _ _ _ h]; simp [h]
  · simp [uls, h]

theorem mk_limbs (c : Int) (n : Nat) (hc : c = n) (h : n ≤ 1099511627776) (w : World) :
    (Instr.makeSlice 145 (.int .i64 c) (.int .i64 c)).run Tryz.prog w = .ok (.slice (some ⟨w.heap.size, 0, none⟩) n n) (w.alloc (.cells (uls n fun _ => 0).toArray 118)) := by
  subst hc
  obtain ⟨i0, hi, hz0, hz1, hz2⟩ := info_parts Tryz.infoU
  rw [run_make (P := Tryz.prog) w 145 118 i0 _ Tryz.underlying145 hi hz0 .i64 .i64 n n (by omega) (by omega) (by rw [hz2]; omega) (by omega)]
  simp only [Int.toNat_natCast, hz1, Nat.mul_one]
  rw [← uls_zero, ← toList_madeCells_one]
  simp [Value.cells]

theorem splice_uls {m M v : Nat} (h : m ≤ M) (hv : v < WW ^ m) : splice (uls M fun _ => 0) 0 (uls m (dg v)) = uls M (dg v) := by
  unfold splice
  rw [List.take_zero, List.nil_append, uls_length, Nat.zero_add]
  apply List.ext_getElem?
  intro j
  rw [List.getElem?_append, uls_length]
  by_cases h1 : j < m
  · rw [if_pos h1, uls_get _ _ _ h1, uls_get _ _ _ (by omega)]
  · rw [if_neg h1, List.getElem?_drop, show m + (j - m) = j by omega]
    by_cases h2 : j < M
    · rw [uls_get _ _ _ h2, uls_get _ _ _ h2, dg_of_lt hv (by omega)]
    · simp [uls, h2]

set_option maxHeartbeats 1000000 in
theorem copied_any (a : Option Addr) (m cap v : Nat) (c : Int) (w : World) (hm : m ≤ 1099511627776) (hc0 : 0 ≤ c) (hc1 : c ≤ 1099511627776)
    (hx : 0 < m → ∃ b o, a = some ⟨b, o, none⟩ ∧ LimAt w b o m v) (hv : v < WW ^ m) :
    Calls Tryz.prog 116 #[.slice a m cap, .int .i64 c] w fun e w' => e = .returned (.slice (some ⟨w.heap.size, 0, none⟩) (max c.toNat m) (max c.toNat m)) ∧
      Blk w' w.heap.size 118 (uls (max c.toNat m) (dg v)) ∧ Below w.heap.size w w' := by
  obtain ⟨k, rfl⟩ := Int.eq_ofNat_of_zero_le hc0
  rw [Int.toNat_natCast]
  have hM : max (k : Int) (m : Int) = ((max k m : Nat) : Int) := by omega
  generalize hMM : max k m = M at *
  have hMm : m ≤ M := by omega
  have hMb : M ≤ 1099511627776 := by omega
  have Hv := Lib.hid hv; clear hv
  have Hx := Lib.hid hx; clear hx
  have HMM := Lib.hid hMM; clear hMM
  have hmk := mk_limbs (M : Int) M rfl hMb
  go_enter Tryz.func116, Tryz.ntmps116
  go_wp2_with (with_reducible refine wpList_copy_splice rfl (.tmp 11) (.tmp 12) 145 145 rfl 118 Tryz.underlying145 (by kernel_rfl) (some ⟨w.heap.size, 0, none⟩) a M M m cap rfl rfl w.heap.size 0 (uls M fun _ => 0) 118 (heap_alloc_new w _) (uls m (dg v)) ?h1 ?h2 ?h3 ?h4 w.heap.size w ((Below.refl _ _).alloc (Nat.le_refl _) _) (Nat.le_refl _) ?_)
  case h1 => rw [uls_length]; exact (Nat.min_eq_left hMm).symm
  case h2 =>
    rw [uls_length]
    intro h0
    obtain ⟨b, o, rfl, hL⟩ := Hx.out h0
    refine ⟨⟨b, o, none⟩, rfl, ?_⟩
    intro j x hj
    have hjm : j < m := by
      rcases Nat.lt_or_ge j m with h | h
      · exact h
      · simp [uls, h] at hj
    rw [uls_get _ _ _ hjm] at hj
    cases hj
    rw [show ((⟨b, o, none⟩ : Addr).add j) = ⟨b, o + j, none⟩ by unfold Addr.add; split <;> simp_all]
    exact cell_later ((Below.refl _ _).alloc (Nat.le_refl _) _) (hL j hjm)
  case h3 => rw [uls_length, uls_length]; omega
  case h4 =>
    intro x hx
    simp [uls] at hx
    obtain ⟨j, _, rfl⟩ := hx
    rfl
  · intro w1 Hb1 hb1
    go_wp2
    go_ret
    refine ⟨rfl, ?_, hb1⟩
    have := Hb1.out
    unfold Blk
    rw [this, splice_uls hMm Hv.out]
end Go.Proofs.YtidjljldhdckiaaGreatDoor
