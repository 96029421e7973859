/- Package dyad, on: Add, Sub, Mul, Cmp, Abs. -/
import Derived.Test.YtidjljldhdckiaaGreatDoorKDyad2
namespace Go.Proofs.YtidjljldhdckiaaGreatDoor
open Go.RowKit
attribute [local go_sem ↓] Go.wp_at_zero Go.wp_at_succ

theorem add_len (X Y : Int) (n : Nat) (hX : (nt X.natAbs).length ≤ n) (hY : (nt Y.natAbs).length ≤ n) : (nt (X + Y).natAbs).length ≤ n + 1 := by
  have h1 := nv_lt (nt X.natAbs); have h2 := nv_lt (nt Y.natAbs)
  rw [nv_nt] at h1 h2
  have h3 := Nat.lt_of_lt_of_le h1 (Nat.pow_le_pow_right (show 0 < 256 by decide) hX)
  have h4 := Nat.lt_of_lt_of_le h2 (Nat.pow_le_pow_right (show 0 < 256 by decide) hY)
  refine nt_length_le ?_
  rw [Nat.pow_succ]
  omega
theorem mul_len (X Y : Int) (m n : Nat) (hX : (nt X.natAbs).length ≤ m) (hY : (nt Y.natAbs).length ≤ n) : (nt (X * Y).natAbs).length ≤ m + n := by
  have h1 := nv_lt (nt X.natAbs); have h2 := nv_lt (nt Y.natAbs)
  rw [nv_nt] at h1 h2
  have h3 := Nat.lt_of_lt_of_le h1 (Nat.pow_le_pow_right (show 0 < 256 by decide) hX)
  have h4 := Nat.lt_of_lt_of_le h2 (Nat.pow_le_pow_right (show 0 < 256 by decide) hY)
  refine nt_length_le ?_
  rw [Int.natAbs_mul, Nat.pow_add]
  exact Nat.mul_lt_mul'' h3 h4
theorem shz_lt (v k : Int) (a b : Nat) (hv : v.natAbs < 2 ^ a) (hk : k ≤ b) : (shz v k).natAbs < 2 ^ (a + b) := by
  have h0 : v.natAbs < 2 ^ (a + b) := Nat.lt_of_lt_of_le hv (Nat.pow_le_pow_right (by decide) (by omega))
  unfold shz
  split
  · rw [Int.natAbs_mul, Int.natAbs_pow, Nat.pow_add]
    refine Nat.lt_of_le_of_lt (Nat.mul_le_mul_left _ (Nat.pow_le_pow_right (by decide) (show k.toNat ≤ b by omega))) ?_
    exact Nat.mul_lt_mul_of_pos_right hv (Nat.pow_pos (by decide))
  · have hp : (0 : Int) < 2 ^ (-k).toNat := by
      have : ((2 ^ (-k).toNat : Nat) : Int) > 0 := by have := Nat.pow_pos (n := (-k).toNat) (show 0 < 2 by decide); omega
      simpa [Int.natCast_pow] using this
    generalize (2 : Int) ^ (-k).toNat = p at *
    have : (v / p).natAbs ≤ v.natAbs := by
      rcases Int.le_total 0 v with h | h
      · have h1 := Int.ediv_nonneg h (by omega : (0 : Int) ≤ p)
        have h2 := Int.ediv_le_self p h
        omega
      · have h1 : v ≤ v / p := by
          rw [Int.le_ediv_iff_mul_le hp]
          have := Int.mul_le_mul_of_nonpos_left h (show (1 : Int) ≤ p by omega)
          omega
        have h2 : v / p ≤ 0 := by
          have := Int.ediv_le_ediv hp h
          simpa using this
        omega
    omega

/-- Both numbers on their level: what comes out. -/
theorem lv_facts {x y : Raw} (hx : Ok x) (hy : Ok y) (A B : Dyadic) (hA : dval x = A) (hB : dval y = B) : ∃ g X Y, lvG A B = g ∧ shz (dN A) (dE A - g) = X ∧ shz (dN B) (dE B - g) = Y ∧ A = Dyadic.ofIntWithPrec X (-g) ∧ B = Dyadic.ofIntWithPrec Y (-g) ∧
    (nt X.natAbs).length ≤ 17179869183 ∧ (nt Y.natAbs).length ≤ 17179869183 ∧ -1099511627776 ≤ g ∧ g ≤ 1099511627776 := by
  subst hA hB
  obtain ⟨M, hM, sx, sy⟩ : ∃ M, M ≤ 4294967296 ∧ Sm M (dval x) ∧ Sm M (dval y) := ⟨4294967296, Nat.le_refl _, hx.sm, hy.sm⟩
  obtain ⟨a1, a2, a3⟩ := sx.parts
  obtain ⟨b1, b2, b3⟩ := sy.parts
  generalize dval x = A at *
  generalize dval y = B at *
  obtain ⟨h1, h2⟩ := lvG_le A B
  have hg : -(M : Int) ≤ lvG A B ∧ lvG A B ≤ M := by
    clear a1 b1
    unfold lvG
    split
    · omega
    · split <;> omega
  refine ⟨lvG A B, _, _, rfl, rfl, rfl, owp_on A _ h1, owp_on B _ h2, ?_, ?_, ?_, ?_⟩
  · exact len_of_bits (shz_lt _ _ _ (2 * M) a1 (by clear a1 b1; omega)) (by omega)
  · exact len_of_bits (shz_lt _ _ _ (2 * M) b1 (by clear a1 b1; omega)) (by omega)
  · clear a1 b1; omega
  · clear a1 b1; omega

/-- The cells of a number. -/
def numC (x : Raw) : List Value := [.bool x.1, .string (bs x.2.1), .int .i64 x.2.2]
/-- The sum of numbers. -/
def dsum : List Raw → Dyadic
  | [] => 0
  | x :: xs => dval x + dsum xs
theorem dsum_append (xs ys : List Raw) : dsum (xs ++ ys) = dsum xs + dsum ys := by
  induction xs with
  | nil => simp only [List.nil_append, dsum]; grind
  | cons x xs ih => simp only [List.cons_append, dsum, ih]; grind
theorem dsum_take (xs : List Raw) (k : Nat) (hk : k < xs.length) : dsum (xs.take (k + 1)) = dsum (xs.take k) + dval xs[k] := by
  rw [List.take_succ_eq_append_getElem hk, dsum_append]
  simp only [dsum]; grind
def dprod : List Raw → Dyadic
  | [] => 1
  | x :: xs => dval x * dprod xs
theorem dprod_append (xs ys : List Raw) : dprod (xs ++ ys) = dprod xs * dprod ys := by
  induction xs with
  | nil => simp only [List.nil_append, dprod]; grind
  | cons x xs ih => simp only [List.cons_append, dprod, ih]; grind
theorem dprod_take (xs : List Raw) (k : Nat) (hk : k < xs.length) : dprod (xs.take (k + 1)) = dprod (xs.take k) * dval xs[k] := by
  rw [List.take_succ_eq_append_getElem hk, dprod_append]
  simp only [dprod]; grind

theorem wAdd_ints (X Y N : Int) (hN : X + Y = N) (b cap : Nat) (ty : TypeId) (w : World) (hl : (nt X.natAbs).length ≤ 34359738368) (hm : (nt Y.natAbs).length ≤ 34359738368)
    (ha : Blk w b ty [.bool (sgnB X), .string (bs (nt X.natAbs)), .bool (sgnB Y), .string (bs (nt Y.natAbs))]) :
    Calls Tryz.prog 50 #[.slice (some ⟨b, 0, none⟩) 2 cap] w fun e w' => e = .returned (intV N) ∧ Below w.heap.size w w' := by
  have := wAdd_two (sgnB X) (nt X.natAbs) (sgnB Y) (nt Y.natAbs) b cap ty w hl hm ha
  rw [iv_int, iv_int, hN] at this
  exact this
theorem wMul_two (s : Bool) (l : List UInt8) (t : Bool) (m : List UInt8) (N : Int) (hN : iv s l * iv t m = N) (b cap : Nat) (ty : TypeId) (w : World) (hl : l.length ≤ 17179869184) (hm : m.length ≤ 17179869184)
    (ha : Blk w b ty [.bool s, .string (bs l), .bool t, .string (bs m)]) :
    Calls Tryz.prog 64 #[.slice (some ⟨b, 0, none⟩) 2 cap] w fun e w' => e = .returned (intV N) ∧ Below w.heap.size w w' := by
  have := wMul_any [(s, l), (t, m)] (some ⟨b, 0, none⟩) cap w (by simp [ilen]; omega) (by simp) (At.of_blk ha)
  have e : iprod [(s, l), (t, m)] = N := by rw [← hN]; simp [iprod]
  rw [e] at this
  exact this

set_option maxHeartbeats 4000000 in
set_option maxRecDepth 100000 in
theorem dAdd_any (xs : List Raw) (a : Option Addr) (cap : Nat) (w : World) (hl : ∀ x ∈ xs, Ok x) (hS : ∀ k, Ok (canon (dsum (xs.take k)))) (hx : xs.length ≤ 1048576)
    (ha : At w a (xs.flatMap numC)) (hT : Tab w) :
    Calls Tryz.prog 28 #[.slice a xs.length cap] w fun e w' => e = .returned (numV (dsum xs)) ∧ Below w.heap.size w w' := by
  have Hl := Lib.hid hl; clear hl
  have HS := Lib.hid hS; clear hS
  have Ha := Lib.hid ha; clear ha
  have HT0 := Lib.hid hT; clear hT
  go_enter Tryz.func28, Tryz.ntmps28
  have Hb : Hid (Below w.heap.size w w) := Below.refl _ _
  go_wp2_with fail
  first | refine wp_world (fun W => Blk W (w.heap.size) 36 [.bool false, .string (bs []), .int .i64 0] ∧ Blk W (w.heap.size + 1) 36 [.bool false, .string (bs []), .int .i64 0] ∧ Below w.heap.size w W) ?hR ?_ | refine calls_world (fun W => Blk W (w.heap.size) 36 [.bool false, .string (bs []), .int .i64 0] ∧ Blk W (w.heap.size + 1) 36 [.bool false, .string (bs []), .int .i64 0] ∧ Below w.heap.size w W) ?hR ?_
  case hR => exact ⟨((Blk.newAt w _ _ (b := w.heap.size) rfl).alloc _), (Blk.newAt (w.alloc _) _ _ (b := w.heap.size + 1) (by simp)), (((Below.refl _ _).alloc (Nat.le_refl _) _).alloc (by simp <;> omega) _)⟩
  rintro W ⟨qr, qs, hbn⟩
  have Hr := Lib.hid qr; clear qr
  have Hs := Lib.hid qs; clear qs
  have r0 : W.cell? ⟨w.heap.size, 0, none⟩ = some (.bool false) := Hr.out.cell 0
  have fr0 : W.frozen? ⟨w.heap.size, 0, none⟩ = false := Hr.out.free 0
  have r1 : W.cell? ⟨w.heap.size, 1, none⟩ = some (.string (bs [])) := Hr.out.cell 1
  have fr1 : W.frozen? ⟨w.heap.size, 1, none⟩ = false := Hr.out.free 1
  have r2 : W.cell? ⟨w.heap.size, 2, none⟩ = some (.int .i64 0) := Hr.out.cell 2
  have fr2 : W.frozen? ⟨w.heap.size, 2, none⟩ = false := Hr.out.free 2
  have s0 : W.cell? ⟨w.heap.size + 1, 0, none⟩ = some (.bool false) := Hs.out.cell 0
  have fs0 : W.frozen? ⟨w.heap.size + 1, 0, none⟩ = false := Hs.out.free 0
  have s1 : W.cell? ⟨w.heap.size + 1, 1, none⟩ = some (.string (bs [])) := Hs.out.cell 1
  have fs1 : W.frozen? ⟨w.heap.size + 1, 1, none⟩ = false := Hs.out.free 1
  have s2 : W.cell? ⟨w.heap.size + 1, 2, none⟩ = some (.int .i64 0) := Hs.out.cell 2
  have fs2 : W.frozen? ⟨w.heap.size + 1, 2, none⟩ = false := Hs.out.free 2
  replace Hb := Lib.hid (bnext Hb.out hbn); clear hbn
  go_loopw [5, 6, 9] (fun _ _ i wr => ∃ (k : Nat), k ≤ xs.length ∧ i = .int .i64 k ∧ Blk wr w.heap.size 36 [.bool false, .string (bs []), .int .i64 0] ∧
      Blk wr (w.heap.size + 1) 36 (numC (canon (dsum (xs.take k)))) ∧ Below w.heap.size w wr) (fun _ _ i _ => xs.length - (intOf i).toNat)
  case atStart => exact ⟨0, Nat.zero_le _, rfl, Hr.out, Hs.out, Hb.out⟩
  case round =>
    obtain ⟨k, hk, rfl, qr, qs, hb⟩ := hrel
    replace Hr := Lib.hid qr; replace Hs := Lib.hid qs; replace Hb := Lib.hid hb; clear qr qs hb r0 r1 r2 fr0 fr1 fr2 s0 s1 s2 fs0 fs1 fs2
    by_cases hlt : k < xs.length
    · obtain ⟨b, o, hab, hcs⟩ := (Ha.out.below Hb.out).elem (f := numC) (sz := 3) (fun _ => rfl) (by decide) k hlt
      have hc0 : wr.cell? ⟨b, o + k * 3, none⟩ = some (.bool xs[k].1) := hcs 0 (by decide)
      have hc1 : wr.cell? ⟨b, o + k * 3 + 1, none⟩ = some (.string (bs xs[k].2.1)) := hcs 1 (by decide)
      have hc2 : wr.cell? ⟨b, o + k * 3 + 2, none⟩ = some (.int .i64 xs[k].2.2) := hcs 2 (by decide)
      have hix := ixs (t := 22) (e := 36) (sz := 3) Tryz.underlying22 (by kernel_rfl) xs.length cap k (k : Int) hab hlt rfl
      have Hst := Lib.hid (dsum_take xs k hlt)
      have HLx : Hid (Ok xs[k]) := Hl.out _ (List.getElem_mem hlt)
      have HL1 := Lib.hid (HS.out k)
      clear hcs hab
      generalize xs[k] = x at *
      obtain ⟨t1, l1, e1⟩ := x
      generalize hS : dsum (xs.take k) = S at *
      clear hS
      obtain ⟨g, X, Y, hg, hX, hY, eA, eB, lX, lY, hg1, hg2⟩ := lv_facts HL1.out HLx.out S (dval (t1, l1, e1)) (dval_canon S) rfl
      obtain ⟨N, hN⟩ : ∃ N, X + Y = N := ⟨_, rfl⟩
      obtain ⟨D, hD⟩ : ∃ D, S + dval (t1, l1, e1) = D := ⟨_, rfl⟩
      have HD : Hid (dval (sgnB N, nt N.natAbs, g) = D) := by
        show _ = _
        rw [dval_int, ← hD, ← hN, ← owp_add, ← eA, ← eB]
      have HlN : Hid ((nt N.natAbs).length ≤ 34359738368) := by
        show _ ≤ _; rw [← hN]; exact Nat.le_trans (add_len X Y _ lX lY) (by decide)
      rw [hD] at Hst
      have Hlv : Hid (∀ W, Tab W → Calls Tryz.prog 49 #[numV S, .agg #[.bool t1, .string (bs l1), .int .i64 e1]] W fun ex w' => ex = .returned (.agg #[.int .i64 g, .bool (sgnB X), .string (bs (nt X.natAbs)), .bool (sgnB Y), .string (bs (nt Y.natAbs))]) ∧ Below W.heap.size W w') := fun W hW =>
        level_any _ _ _ t1 l1 e1 S (dval (t1, l1, e1)) (dval_canon S) rfl g X Y hg hX hY W HL1.out HLx.out hW
      have LX : Hid ((nt X.natAbs).length ≤ 34359738368) := by show _ ≤ _; omega
      have LY : Hid ((nt Y.natAbs).length ≤ 34359738368) := by show _ ≤ _; omega
      have Hg : Hid (-1099511627776 ≤ g ∧ g ≤ 1099511627776) := ⟨hg1, hg2⟩
      have HN := Lib.hid hN
      clear eA eB hg hX hY lX lY hN hD hg1 hg2 HL1 HLx
      unfold numC canon at Hs
      simp only at Hs
      have r0 : wr.cell? ⟨w.heap.size, 0, none⟩ = some (.bool false) := Hr.out.cell 0
      have fr0 : wr.frozen? ⟨w.heap.size, 0, none⟩ = false := Hr.out.free 0
      have r1 : wr.cell? ⟨w.heap.size, 1, none⟩ = some (.string (bs [])) := Hr.out.cell 1
      have fr1 : wr.frozen? ⟨w.heap.size, 1, none⟩ = false := Hr.out.free 1
      have r2 : wr.cell? ⟨w.heap.size, 2, none⟩ = some (.int .i64 0) := Hr.out.cell 2
      have fr2 : wr.frozen? ⟨w.heap.size, 2, none⟩ = false := Hr.out.free 2
      have s0 : wr.cell? ⟨w.heap.size + 1, 0, none⟩ = some (.bool (sgnB (dN S))) := Hs.out.cell 0
      have fs0 : wr.frozen? ⟨w.heap.size + 1, 0, none⟩ = false := Hs.out.free 0
      have s1 : wr.cell? ⟨w.heap.size + 1, 1, none⟩ = some (.string (bs (nt (dN S).natAbs))) := Hs.out.cell 1
      have fs1 : wr.frozen? ⟨w.heap.size + 1, 1, none⟩ = false := Hs.out.free 1
      have s2 : wr.cell? ⟨w.heap.size + 1, 2, none⟩ = some (.int .i64 (dE S)) := Hs.out.cell 2
      have fs2 : wr.frozen? ⟨w.heap.size + 1, 2, none⟩ = false := Hs.out.free 2
      have lz_r_W1 : w.heap.size < wr.heap.size := Hr.out.lt
      have lz_s_W1 : w.heap.size + 1 < wr.heap.size := Hs.out.lt
      go_wp2_with fail
      first | refine wp_world (fun W1 => Blk W1 (wr.heap.size) 36 [.bool t1, .string (bs l1), .int .i64 e1] ∧ Below wr.heap.size wr W1) ?hR ?_ | refine calls_world (fun W1 => Blk W1 (wr.heap.size) 36 [.bool t1, .string (bs l1), .int .i64 e1] ∧ Below wr.heap.size wr W1) ?hR ?_
      case hR => exact ⟨(Blk.newAt wr _ _ (b := wr.heap.size) rfl), ((Below.refl _ _).alloc (Nat.le_refl _) _)⟩
      rintro W1 ⟨qc, hbn⟩
      have Hc := Lib.hid qc; clear qc
      clear r0 fr0 r1 fr1 r2 fr2
      replace Hr := Lib.hid (Hr.out.below hbn)
      have r0 : W1.cell? ⟨w.heap.size, 0, none⟩ = some (.bool false) := Hr.out.cell 0
      have fr0 : W1.frozen? ⟨w.heap.size, 0, none⟩ = false := Hr.out.free 0
      have r1 : W1.cell? ⟨w.heap.size, 1, none⟩ = some (.string (bs [])) := Hr.out.cell 1
      have fr1 : W1.frozen? ⟨w.heap.size, 1, none⟩ = false := Hr.out.free 1
      have r2 : W1.cell? ⟨w.heap.size, 2, none⟩ = some (.int .i64 0) := Hr.out.cell 2
      have fr2 : W1.frozen? ⟨w.heap.size, 2, none⟩ = false := Hr.out.free 2
      clear s0 fs0 s1 fs1 s2 fs2
      replace Hs := Lib.hid (Hs.out.below hbn)
      have s0 : W1.cell? ⟨w.heap.size + 1, 0, none⟩ = some (.bool (sgnB (dN S))) := Hs.out.cell 0
      have fs0 : W1.frozen? ⟨w.heap.size + 1, 0, none⟩ = false := Hs.out.free 0
      have s1 : W1.cell? ⟨w.heap.size + 1, 1, none⟩ = some (.string (bs (nt (dN S).natAbs))) := Hs.out.cell 1
      have fs1 : W1.frozen? ⟨w.heap.size + 1, 1, none⟩ = false := Hs.out.free 1
      have s2 : W1.cell? ⟨w.heap.size + 1, 2, none⟩ = some (.int .i64 (dE S)) := Hs.out.cell 2
      have fs2 : W1.frozen? ⟨w.heap.size + 1, 2, none⟩ = false := Hs.out.free 2
      have c0 : W1.cell? ⟨wr.heap.size, 0, none⟩ = some (.bool t1) := Hc.out.cell 0
      have c1 : W1.cell? ⟨wr.heap.size, 1, none⟩ = some (.string (bs l1)) := Hc.out.cell 1
      have c2 : W1.cell? ⟨wr.heap.size, 2, none⟩ = some (.int .i64 e1) := Hc.out.cell 2
      replace Hb := Lib.hid (bnext Hb.out hbn); clear hbn
      have HT := Lib.hid (HT0.out.below Hb.out)
      go_wp2_with fail
      refine (Hlv.out _ HT.out).mono ?_
      rintro e w1 ⟨rfl, hbn⟩
      clear r0 fr0 r1 fr1 r2 fr2
      clear s0 fs0 s1 fs1 s2 fs2
      clear c0 c1 c2
      replace Hr := Lib.hid (Hr.out.below hbn)
      replace Hs := Lib.hid (Hs.out.below hbn)
      replace Hc := Lib.hid (Hc.out.below hbn)
      have r0 : w1.cell? ⟨w.heap.size, 0, none⟩ = some (.bool false) := Hr.out.cell 0
      have fr0 : w1.frozen? ⟨w.heap.size, 0, none⟩ = false := Hr.out.free 0
      have r1 : w1.cell? ⟨w.heap.size, 1, none⟩ = some (.string (bs [])) := Hr.out.cell 1
      have fr1 : w1.frozen? ⟨w.heap.size, 1, none⟩ = false := Hr.out.free 1
      have r2 : w1.cell? ⟨w.heap.size, 2, none⟩ = some (.int .i64 0) := Hr.out.cell 2
      have fr2 : w1.frozen? ⟨w.heap.size, 2, none⟩ = false := Hr.out.free 2
      have s0 : w1.cell? ⟨w.heap.size + 1, 0, none⟩ = some (.bool (sgnB (dN S))) := Hs.out.cell 0
      have fs0 : w1.frozen? ⟨w.heap.size + 1, 0, none⟩ = false := Hs.out.free 0
      have s1 : w1.cell? ⟨w.heap.size + 1, 1, none⟩ = some (.string (bs (nt (dN S).natAbs))) := Hs.out.cell 1
      have fs1 : w1.frozen? ⟨w.heap.size + 1, 1, none⟩ = false := Hs.out.free 1
      have s2 : w1.cell? ⟨w.heap.size + 1, 2, none⟩ = some (.int .i64 (dE S)) := Hs.out.cell 2
      have fs2 : w1.frozen? ⟨w.heap.size + 1, 2, none⟩ = false := Hs.out.free 2
      have c0 : w1.cell? ⟨wr.heap.size, 0, none⟩ = some (.bool t1) := Hc.out.cell 0
      have c1 : w1.cell? ⟨wr.heap.size, 1, none⟩ = some (.string (bs l1)) := Hc.out.cell 1
      have c2 : w1.cell? ⟨wr.heap.size, 2, none⟩ = some (.int .i64 e1) := Hc.out.cell 2
      replace Hb := Lib.hid (bnext Hb.out hbn); clear hbn
      have lz_r_W2 : w.heap.size < w1.heap.size := Hr.out.lt
      have lz_s_W2 : w.heap.size + 1 < w1.heap.size := Hs.out.lt
      have lz_c_W2 : wr.heap.size < w1.heap.size := Hc.out.lt
      go_wp2_with fail
      first | refine wp_world (fun W2 => Blk W2 (w1.heap.size) 99 [.int .i64 g, .bool (sgnB X), .string (bs (nt X.natAbs)), .bool (sgnB Y), .string (bs (nt Y.natAbs))] ∧ Below w1.heap.size w1 W2) ?hR ?_ | refine calls_world (fun W2 => Blk W2 (w1.heap.size) 99 [.int .i64 g, .bool (sgnB X), .string (bs (nt X.natAbs)), .bool (sgnB Y), .string (bs (nt Y.natAbs))] ∧ Below w1.heap.size w1 W2) ?hR ?_
      case hR => exact ⟨(Blk.newAt w1 _ _ (b := w1.heap.size) rfl), ((Below.refl _ _).alloc (Nat.le_refl _) _)⟩
      rintro W2 ⟨qp, hbn⟩
      have Hp := Lib.hid qp; clear qp
      clear r0 fr0 r1 fr1 r2 fr2
      replace Hr := Lib.hid (Hr.out.below hbn)
      have r0 : W2.cell? ⟨w.heap.size, 0, none⟩ = some (.bool false) := Hr.out.cell 0
      have fr0 : W2.frozen? ⟨w.heap.size, 0, none⟩ = false := Hr.out.free 0
      have r1 : W2.cell? ⟨w.heap.size, 1, none⟩ = some (.string (bs [])) := Hr.out.cell 1
      have fr1 : W2.frozen? ⟨w.heap.size, 1, none⟩ = false := Hr.out.free 1
      have r2 : W2.cell? ⟨w.heap.size, 2, none⟩ = some (.int .i64 0) := Hr.out.cell 2
      have fr2 : W2.frozen? ⟨w.heap.size, 2, none⟩ = false := Hr.out.free 2
      clear s0 fs0 s1 fs1 s2 fs2
      replace Hs := Lib.hid (Hs.out.below hbn)
      have s0 : W2.cell? ⟨w.heap.size + 1, 0, none⟩ = some (.bool (sgnB (dN S))) := Hs.out.cell 0
      have fs0 : W2.frozen? ⟨w.heap.size + 1, 0, none⟩ = false := Hs.out.free 0
      have s1 : W2.cell? ⟨w.heap.size + 1, 1, none⟩ = some (.string (bs (nt (dN S).natAbs))) := Hs.out.cell 1
      have fs1 : W2.frozen? ⟨w.heap.size + 1, 1, none⟩ = false := Hs.out.free 1
      have s2 : W2.cell? ⟨w.heap.size + 1, 2, none⟩ = some (.int .i64 (dE S)) := Hs.out.cell 2
      have fs2 : W2.frozen? ⟨w.heap.size + 1, 2, none⟩ = false := Hs.out.free 2
      clear c0 c1 c2
      replace Hc := Lib.hid (Hc.out.below hbn)
      have c0 : W2.cell? ⟨wr.heap.size, 0, none⟩ = some (.bool t1) := Hc.out.cell 0
      have c1 : W2.cell? ⟨wr.heap.size, 1, none⟩ = some (.string (bs l1)) := Hc.out.cell 1
      have c2 : W2.cell? ⟨wr.heap.size, 2, none⟩ = some (.int .i64 e1) := Hc.out.cell 2
      have p0 : W2.cell? ⟨w1.heap.size, 0, none⟩ = some (.int .i64 g) := Hp.out.cell 0
      have p1 : W2.cell? ⟨w1.heap.size, 1, none⟩ = some (.bool (sgnB X)) := Hp.out.cell 1
      have p2 : W2.cell? ⟨w1.heap.size, 2, none⟩ = some (.string (bs (nt X.natAbs))) := Hp.out.cell 2
      have p3 : W2.cell? ⟨w1.heap.size, 3, none⟩ = some (.bool (sgnB Y)) := Hp.out.cell 3
      have p4 : W2.cell? ⟨w1.heap.size, 4, none⟩ = some (.string (bs (nt Y.natAbs))) := Hp.out.cell 4
      replace Hb := Lib.hid (bnext Hb.out hbn); clear hbn
      refine wp_region_plan (fun w' => w'.cell? ⟨w1.heap.size, 0, none⟩ = some (.int .i64 g) ∧ w'.cell? ⟨w1.heap.size, 1, none⟩ = some (.bool (sgnB X)) ∧ w'.cell? ⟨w1.heap.size, 2, none⟩ = some (.string (bs (nt X.natAbs))) ∧ w'.cell? ⟨w1.heap.size, 3, none⟩ = some (.bool (sgnB Y)) ∧ w'.cell? ⟨w1.heap.size, 4, none⟩ = some (.string (bs (nt Y.natAbs)))) (fun i => Nat.blt i 9) [(0, true), (1, true), (2, true), (3, true), (6, true), (7, true), (4, false), (5, false), (8, false), (9, false)] (by kernel_rfl) (by kernel_rfl) rfl (by kernel_rfl) (fun o c a v w => by cases o.dst <;> exact id) ⟨p0, p1, p2, p3, p4⟩ ?_
      refine planT rfl rfl (v := ?_) (fun w' hw' => ?_) ?_; rotate_left; focus (go_simp; try with_reducible rfl)
      try simp only [Act.put, List.setIfInBounds_toArray, List.set_cons_zero, List.set_cons_succ]
      refine planT rfl rfl (v := ?_) (fun w' hw' => ?_) ?_; rotate_left; focus (obtain ⟨q0, q1, q2, q3, q4⟩ := hw'; go_simp; try with_reducible rfl)
      try simp only [Act.put, List.setIfInBounds_toArray, List.set_cons_zero, List.set_cons_succ]
      refine planT rfl rfl (v := ?_) (fun w' hw' => ?_) ?_; rotate_left; focus (go_simp; try with_reducible rfl)
      try simp only [Act.put, List.setIfInBounds_toArray, List.set_cons_zero, List.set_cons_succ]
      refine planT rfl rfl (v := ?_) (fun w' hw' => ?_) ?_; rotate_left; focus (obtain ⟨q0, q1, q2, q3, q4⟩ := hw'; go_simp; try with_reducible rfl)
      try simp only [Act.put, List.setIfInBounds_toArray, List.set_cons_zero, List.set_cons_succ]
      refine planT rfl rfl (v := ?_) (fun w' hw' => ?_) ?_; rotate_left; focus (go_simp; try with_reducible rfl)
      try simp only [Act.put, List.setIfInBounds_toArray, List.set_cons_zero, List.set_cons_succ]
      refine planT rfl rfl (v := ?_) (fun w' hw' => ?_) ?_; rotate_left; focus (obtain ⟨q0, q1, q2, q3, q4⟩ := hw'; go_simp; try with_reducible rfl)
      try simp only [Act.put, List.setIfInBounds_toArray, List.set_cons_zero, List.set_cons_succ]
      refine planF rfl rfl (fun K hK => ?_)
      go_simp
      refine hK _ _ (fun _ => ⟨cell_new p0, cell_new p1, cell_new p2, cell_new p3, cell_new p4⟩) ?_; clear hK K
      try simp only [Act.put, List.setIfInBounds_toArray, List.set_cons_zero, List.set_cons_succ]
      refine plan_world (fun W3 => Blk W3 (W2.heap.size) 34 [.bool (sgnB X), .string (bs (nt X.natAbs)), .bool (sgnB Y), .string (bs (nt Y.natAbs))] ∧ Below W2.heap.size W2 W3) (by first | exact ⟨Blk.new _ _ _, (Below.refl _ _).alloc (Nat.le_refl _) _⟩ | exact ⟨Blk.drew (Blk.new _ _ _), ((Below.refl _ _).alloc (Nat.le_refl _) _).drew⟩) ?_
      rintro W3 ⟨qv, hbn⟩
      clear r0 fr0 r1 fr1 r2 fr2
      clear s0 fs0 s1 fs1 s2 fs2
      clear c0 c1 c2
      clear p0 p1 p2 p3 p4
      have lz_r_W3 : w.heap.size < W2.heap.size := Hr.out.lt
      have lz_s_W3 : w.heap.size + 1 < W2.heap.size := Hs.out.lt
      have lz_c_W3 : wr.heap.size < W2.heap.size := Hc.out.lt
      have lz_p_W3 : w1.heap.size < W2.heap.size := Hp.out.lt
      replace Hr := Lib.hid (Hr.out.below hbn)
      replace Hs := Lib.hid (Hs.out.below hbn)
      replace Hc := Lib.hid (Hc.out.below hbn)
      replace Hp := Lib.hid (Hp.out.below hbn)
      have Hv := Lib.hid qv; clear qv
      have r0 : W3.cell? ⟨w.heap.size, 0, none⟩ = some (.bool false) := Hr.out.cell 0
      have fr0 : W3.frozen? ⟨w.heap.size, 0, none⟩ = false := Hr.out.free 0
      have r1 : W3.cell? ⟨w.heap.size, 1, none⟩ = some (.string (bs [])) := Hr.out.cell 1
      have fr1 : W3.frozen? ⟨w.heap.size, 1, none⟩ = false := Hr.out.free 1
      have r2 : W3.cell? ⟨w.heap.size, 2, none⟩ = some (.int .i64 0) := Hr.out.cell 2
      have fr2 : W3.frozen? ⟨w.heap.size, 2, none⟩ = false := Hr.out.free 2
      have s0 : W3.cell? ⟨w.heap.size + 1, 0, none⟩ = some (.bool (sgnB (dN S))) := Hs.out.cell 0
      have fs0 : W3.frozen? ⟨w.heap.size + 1, 0, none⟩ = false := Hs.out.free 0
      have s1 : W3.cell? ⟨w.heap.size + 1, 1, none⟩ = some (.string (bs (nt (dN S).natAbs))) := Hs.out.cell 1
      have fs1 : W3.frozen? ⟨w.heap.size + 1, 1, none⟩ = false := Hs.out.free 1
      have s2 : W3.cell? ⟨w.heap.size + 1, 2, none⟩ = some (.int .i64 (dE S)) := Hs.out.cell 2
      have fs2 : W3.frozen? ⟨w.heap.size + 1, 2, none⟩ = false := Hs.out.free 2
      have c0 : W3.cell? ⟨wr.heap.size, 0, none⟩ = some (.bool t1) := Hc.out.cell 0
      have c1 : W3.cell? ⟨wr.heap.size, 1, none⟩ = some (.string (bs l1)) := Hc.out.cell 1
      have c2 : W3.cell? ⟨wr.heap.size, 2, none⟩ = some (.int .i64 e1) := Hc.out.cell 2
      have p0 : W3.cell? ⟨w1.heap.size, 0, none⟩ = some (.int .i64 g) := Hp.out.cell 0
      have p1 : W3.cell? ⟨w1.heap.size, 1, none⟩ = some (.bool (sgnB X)) := Hp.out.cell 1
      have p2 : W3.cell? ⟨w1.heap.size, 2, none⟩ = some (.string (bs (nt X.natAbs))) := Hp.out.cell 2
      have p3 : W3.cell? ⟨w1.heap.size, 3, none⟩ = some (.bool (sgnB Y)) := Hp.out.cell 3
      have p4 : W3.cell? ⟨w1.heap.size, 4, none⟩ = some (.string (bs (nt Y.natAbs))) := Hp.out.cell 4
      have v0 : W3.cell? ⟨W2.heap.size, 0, none⟩ = some (.bool (sgnB X)) := Hv.out.cell 0
      have v1 : W3.cell? ⟨W2.heap.size, 1, none⟩ = some (.string (bs (nt X.natAbs))) := Hv.out.cell 1
      have v2 : W3.cell? ⟨W2.heap.size, 2, none⟩ = some (.bool (sgnB Y)) := Hv.out.cell 2
      have v3 : W3.cell? ⟨W2.heap.size, 3, none⟩ = some (.string (bs (nt Y.natAbs))) := Hv.out.cell 3
      replace Hb := Lib.hid (bnext Hb.out hbn); clear hbn
      refine planF rfl rfl (fun K hK => ?_)
      go_simp
      with_reducible refine (wAdd_ints X Y N HN.out W2.heap.size 2 34 _ LX.out LY.out Hv.out).mono ?_
      rintro e w3 ⟨rfl, hq⟩
      have hbn : Below W3.heap.size W3 w3 := (by first | exact hq | exact bundrew hq); clear hq
      clear r0 fr0 r1 fr1 r2 fr2
      clear s0 fs0 s1 fs1 s2 fs2
      clear c0 c1 c2
      clear p0 p1 p2 p3 p4
      clear v0 v1 v2 v3
      replace Hr := Lib.hid (Hr.out.below hbn)
      replace Hs := Lib.hid (Hs.out.below hbn)
      replace Hc := Lib.hid (Hc.out.below hbn)
      replace Hp := Lib.hid (Hp.out.below hbn)
      replace Hv := Lib.hid (Hv.out.below hbn)
      have r0 : w3.cell? ⟨w.heap.size, 0, none⟩ = some (.bool false) := Hr.out.cell 0
      have fr0 : w3.frozen? ⟨w.heap.size, 0, none⟩ = false := Hr.out.free 0
      have r1 : w3.cell? ⟨w.heap.size, 1, none⟩ = some (.string (bs [])) := Hr.out.cell 1
      have fr1 : w3.frozen? ⟨w.heap.size, 1, none⟩ = false := Hr.out.free 1
      have r2 : w3.cell? ⟨w.heap.size, 2, none⟩ = some (.int .i64 0) := Hr.out.cell 2
      have fr2 : w3.frozen? ⟨w.heap.size, 2, none⟩ = false := Hr.out.free 2
      have s0 : w3.cell? ⟨w.heap.size + 1, 0, none⟩ = some (.bool (sgnB (dN S))) := Hs.out.cell 0
      have fs0 : w3.frozen? ⟨w.heap.size + 1, 0, none⟩ = false := Hs.out.free 0
      have s1 : w3.cell? ⟨w.heap.size + 1, 1, none⟩ = some (.string (bs (nt (dN S).natAbs))) := Hs.out.cell 1
      have fs1 : w3.frozen? ⟨w.heap.size + 1, 1, none⟩ = false := Hs.out.free 1
      have s2 : w3.cell? ⟨w.heap.size + 1, 2, none⟩ = some (.int .i64 (dE S)) := Hs.out.cell 2
      have fs2 : w3.frozen? ⟨w.heap.size + 1, 2, none⟩ = false := Hs.out.free 2
      have c0 : w3.cell? ⟨wr.heap.size, 0, none⟩ = some (.bool t1) := Hc.out.cell 0
      have c1 : w3.cell? ⟨wr.heap.size, 1, none⟩ = some (.string (bs l1)) := Hc.out.cell 1
      have c2 : w3.cell? ⟨wr.heap.size, 2, none⟩ = some (.int .i64 e1) := Hc.out.cell 2
      have p0 : w3.cell? ⟨w1.heap.size, 0, none⟩ = some (.int .i64 g) := Hp.out.cell 0
      have p1 : w3.cell? ⟨w1.heap.size, 1, none⟩ = some (.bool (sgnB X)) := Hp.out.cell 1
      have p2 : w3.cell? ⟨w1.heap.size, 2, none⟩ = some (.string (bs (nt X.natAbs))) := Hp.out.cell 2
      have p3 : w3.cell? ⟨w1.heap.size, 3, none⟩ = some (.bool (sgnB Y)) := Hp.out.cell 3
      have p4 : w3.cell? ⟨w1.heap.size, 4, none⟩ = some (.string (bs (nt Y.natAbs))) := Hp.out.cell 4
      have v0 : w3.cell? ⟨W2.heap.size, 0, none⟩ = some (.bool (sgnB X)) := Hv.out.cell 0
      have v1 : w3.cell? ⟨W2.heap.size, 1, none⟩ = some (.string (bs (nt X.natAbs))) := Hv.out.cell 1
      have v2 : w3.cell? ⟨W2.heap.size, 2, none⟩ = some (.bool (sgnB Y)) := Hv.out.cell 2
      have v3 : w3.cell? ⟨W2.heap.size, 3, none⟩ = some (.string (bs (nt Y.natAbs))) := Hv.out.cell 3
      replace Hb := Lib.hid (bnext Hb.out hbn); clear hbn
      refine hK _ _ (fun _ => ⟨p0, p1, p2, p3, p4⟩) ?_; clear hK K
      try simp only [Act.put, List.setIfInBounds_toArray, List.set_cons_zero, List.set_cons_succ]
      refine planF rfl rfl (fun K hK => ?_)
      go_simp
      with_reducible refine (make_any (sgnB N) (nt N.natAbs) g D HD.out _ HlN.out Hg.out (by first | exact (HT0.out.below Hb.out) | exact Tab.drew (HT0.out.below Hb.out) | exact Tab.alloc (HT0.out.below Hb.out) _ | exact Tab.drew (Tab.alloc (HT0.out.below Hb.out) _) | exact Tab.alloc (Tab.drew (HT0.out.below Hb.out)) _)).mono ?_
      rintro e w4 ⟨rfl, hq⟩
      have hbn : Below w3.heap.size w3 w4 := (by first | exact hq | exact bundrew hq); clear hq
      clear r0 fr0 r1 fr1 r2 fr2
      clear s0 fs0 s1 fs1 s2 fs2
      clear c0 c1 c2
      clear p0 p1 p2 p3 p4
      clear v0 v1 v2 v3
      replace Hr := Lib.hid (Hr.out.below hbn)
      replace Hs := Lib.hid (Hs.out.below hbn)
      replace Hc := Lib.hid (Hc.out.below hbn)
      replace Hp := Lib.hid (Hp.out.below hbn)
      replace Hv := Lib.hid (Hv.out.below hbn)
      have r0 : w4.cell? ⟨w.heap.size, 0, none⟩ = some (.bool false) := Hr.out.cell 0
      have fr0 : w4.frozen? ⟨w.heap.size, 0, none⟩ = false := Hr.out.free 0
      have r1 : w4.cell? ⟨w.heap.size, 1, none⟩ = some (.string (bs [])) := Hr.out.cell 1
      have fr1 : w4.frozen? ⟨w.heap.size, 1, none⟩ = false := Hr.out.free 1
      have r2 : w4.cell? ⟨w.heap.size, 2, none⟩ = some (.int .i64 0) := Hr.out.cell 2
      have fr2 : w4.frozen? ⟨w.heap.size, 2, none⟩ = false := Hr.out.free 2
      have s0 : w4.cell? ⟨w.heap.size + 1, 0, none⟩ = some (.bool (sgnB (dN S))) := Hs.out.cell 0
      have fs0 : w4.frozen? ⟨w.heap.size + 1, 0, none⟩ = false := Hs.out.free 0
      have s1 : w4.cell? ⟨w.heap.size + 1, 1, none⟩ = some (.string (bs (nt (dN S).natAbs))) := Hs.out.cell 1
      have fs1 : w4.frozen? ⟨w.heap.size + 1, 1, none⟩ = false := Hs.out.free 1
      have s2 : w4.cell? ⟨w.heap.size + 1, 2, none⟩ = some (.int .i64 (dE S)) := Hs.out.cell 2
      have fs2 : w4.frozen? ⟨w.heap.size + 1, 2, none⟩ = false := Hs.out.free 2
      have c0 : w4.cell? ⟨wr.heap.size, 0, none⟩ = some (.bool t1) := Hc.out.cell 0
      have c1 : w4.cell? ⟨wr.heap.size, 1, none⟩ = some (.string (bs l1)) := Hc.out.cell 1
      have c2 : w4.cell? ⟨wr.heap.size, 2, none⟩ = some (.int .i64 e1) := Hc.out.cell 2
      have p0 : w4.cell? ⟨w1.heap.size, 0, none⟩ = some (.int .i64 g) := Hp.out.cell 0
      have p1 : w4.cell? ⟨w1.heap.size, 1, none⟩ = some (.bool (sgnB X)) := Hp.out.cell 1
      have p2 : w4.cell? ⟨w1.heap.size, 2, none⟩ = some (.string (bs (nt X.natAbs))) := Hp.out.cell 2
      have p3 : w4.cell? ⟨w1.heap.size, 3, none⟩ = some (.bool (sgnB Y)) := Hp.out.cell 3
      have p4 : w4.cell? ⟨w1.heap.size, 4, none⟩ = some (.string (bs (nt Y.natAbs))) := Hp.out.cell 4
      have v0 : w4.cell? ⟨W2.heap.size, 0, none⟩ = some (.bool (sgnB X)) := Hv.out.cell 0
      have v1 : w4.cell? ⟨W2.heap.size, 1, none⟩ = some (.string (bs (nt X.natAbs))) := Hv.out.cell 1
      have v2 : w4.cell? ⟨W2.heap.size, 2, none⟩ = some (.bool (sgnB Y)) := Hv.out.cell 2
      have v3 : w4.cell? ⟨W2.heap.size, 3, none⟩ = some (.string (bs (nt Y.natAbs))) := Hv.out.cell 3
      replace Hb := Lib.hid (bnext Hb.out hbn); clear hbn
      refine hK _ _ (fun _ => ⟨p0, p1, p2, p3, p4⟩) ?_; clear hK K
      try simp only [Act.put, List.setIfInBounds_toArray, List.set_cons_zero, List.set_cons_succ]
      refine planF rfl rfl (fun K hK => ?_)
      go_simp
      refine hK _ _ (fun h => absurd h (by decide)) ?_; clear hK K
      try simp only [Act.put, List.setIfInBounds_toArray, List.set_cons_zero, List.set_cons_succ]
      clear r0 fr0 r1 fr1 r2 fr2
      clear s0 fs0 s1 fs1 s2 fs2
      clear c0 c1 c2
      clear p0 p1 p2 p3 p4
      clear v0 v1 v2 v3
      refine plan_world (fun w5 => Blk w5 (w.heap.size) 36 [.bool false, .string (bs []), .int .i64 0] ∧ Blk w5 (w.heap.size + 1) 36 [.bool (sgnB (dN D)), .string (bs (nt (dN D).natAbs)), .int .i64 (dE D)] ∧ Blk w5 (wr.heap.size) 36 [.bool t1, .string (bs l1), .int .i64 e1] ∧ Blk w5 (w1.heap.size) 99 [.int .i64 g, .bool (sgnB X), .string (bs (nt X.natAbs)), .bool (sgnB Y), .string (bs (nt Y.natAbs))] ∧ Blk w5 (W2.heap.size) 34 [.bool (sgnB X), .string (bs (nt X.natAbs)), .bool (sgnB Y), .string (bs (nt Y.natAbs))] ∧ Below w.heap.size w w5) (by first | exact ⟨(((Hr.out.set_other ⟨w.heap.size + 1, 0, none⟩ (by first | (dsimp only; omega) | (simp <;> omega)) _).set_other ⟨w.heap.size + 1, 1, none⟩ (by first | (dsimp only; omega) | (simp <;> omega)) _).set_other ⟨w.heap.size + 1, 2, none⟩ (by first | (dsimp only; omega) | (simp <;> omega)) _), (((Hs.out.set 0 _).set 1 _).set 2 _), (((Hc.out.set_other ⟨w.heap.size + 1, 0, none⟩ (by first | (dsimp only; omega) | (simp <;> omega)) _).set_other ⟨w.heap.size + 1, 1, none⟩ (by first | (dsimp only; omega) | (simp <;> omega)) _).set_other ⟨w.heap.size + 1, 2, none⟩ (by first | (dsimp only; omega) | (simp <;> omega)) _), (((Hp.out.set_other ⟨w.heap.size + 1, 0, none⟩ (by first | (dsimp only; omega) | (simp <;> omega)) _).set_other ⟨w.heap.size + 1, 1, none⟩ (by first | (dsimp only; omega) | (simp <;> omega)) _).set_other ⟨w.heap.size + 1, 2, none⟩ (by first | (dsimp only; omega) | (simp <;> omega)) _), (((Hv.out.set_other ⟨w.heap.size + 1, 0, none⟩ (by first | (dsimp only; omega) | (simp <;> omega)) _).set_other ⟨w.heap.size + 1, 1, none⟩ (by first | (dsimp only; omega) | (simp <;> omega)) _).set_other ⟨w.heap.size + 1, 2, none⟩ (by first | (dsimp only; omega) | (simp <;> omega)) _), (((Hb.out.setCell (p := ⟨w.heap.size + 1, 0, none⟩) (by have := Hb.out.size; first | (dsimp only; omega) | (simp <;> omega)) _).setCell (p := ⟨w.heap.size + 1, 1, none⟩) (by have := Hb.out.size; first | (dsimp only; omega) | (simp <;> omega)) _).setCell (p := ⟨w.heap.size + 1, 2, none⟩) (by have := Hb.out.size; first | (dsimp only; omega) | (simp <;> omega)) _)⟩ | exact ⟨(((Hr.out.set_other ⟨w.heap.size + 1, 0, none⟩ (by first | (dsimp only; omega) | (simp <;> omega)) _).set_other ⟨w.heap.size + 1, 1, none⟩ (by first | (dsimp only; omega) | (simp <;> omega)) _).set_other ⟨w.heap.size + 1, 2, none⟩ (by first | (dsimp only; omega) | (simp <;> omega)) _), (((Hs.out.set 0 _).set 1 _).set 2 _), (((Hc.out.set_other ⟨w.heap.size + 1, 0, none⟩ (by first | (dsimp only; omega) | (simp <;> omega)) _).set_other ⟨w.heap.size + 1, 1, none⟩ (by first | (dsimp only; omega) | (simp <;> omega)) _).set_other ⟨w.heap.size + 1, 2, none⟩ (by first | (dsimp only; omega) | (simp <;> omega)) _), (((Hp.out.set_other ⟨w.heap.size + 1, 0, none⟩ (by first | (dsimp only; omega) | (simp <;> omega)) _).set_other ⟨w.heap.size + 1, 1, none⟩ (by first | (dsimp only; omega) | (simp <;> omega)) _).set_other ⟨w.heap.size + 1, 2, none⟩ (by first | (dsimp only; omega) | (simp <;> omega)) _), (((Hv.out.set_other ⟨w.heap.size + 1, 0, none⟩ (by first | (dsimp only; omega) | (simp <;> omega)) _).set_other ⟨w.heap.size + 1, 1, none⟩ (by first | (dsimp only; omega) | (simp <;> omega)) _).set_other ⟨w.heap.size + 1, 2, none⟩ (by first | (dsimp only; omega) | (simp <;> omega)) _), Below.drew (((Hb.out.setCell (p := ⟨w.heap.size + 1, 0, none⟩) (by have := Hb.out.size; first | (dsimp only; omega) | (simp <;> omega)) _).setCell (p := ⟨w.heap.size + 1, 1, none⟩) (by have := Hb.out.size; first | (dsimp only; omega) | (simp <;> omega)) _).setCell (p := ⟨w.heap.size + 1, 2, none⟩) (by have := Hb.out.size; first | (dsimp only; omega) | (simp <;> omega)) _)⟩) ?_
      rintro w5 ⟨qr, qs, qc, qp, qv, hbn⟩
      replace Hr := Lib.hid qr; clear qr
      replace Hs := Lib.hid qs; clear qs
      replace Hc := Lib.hid qc; clear qc
      replace Hp := Lib.hid qp; clear qp
      replace Hv := Lib.hid qv; clear qv
      have r0 : w5.cell? ⟨w.heap.size, 0, none⟩ = some (.bool false) := Hr.out.cell 0
      have fr0 : w5.frozen? ⟨w.heap.size, 0, none⟩ = false := Hr.out.free 0
      have r1 : w5.cell? ⟨w.heap.size, 1, none⟩ = some (.string (bs [])) := Hr.out.cell 1
      have fr1 : w5.frozen? ⟨w.heap.size, 1, none⟩ = false := Hr.out.free 1
      have r2 : w5.cell? ⟨w.heap.size, 2, none⟩ = some (.int .i64 0) := Hr.out.cell 2
      have fr2 : w5.frozen? ⟨w.heap.size, 2, none⟩ = false := Hr.out.free 2
      have s0 : w5.cell? ⟨w.heap.size + 1, 0, none⟩ = some (.bool (sgnB (dN D))) := Hs.out.cell 0
      have fs0 : w5.frozen? ⟨w.heap.size + 1, 0, none⟩ = false := Hs.out.free 0
      have s1 : w5.cell? ⟨w.heap.size + 1, 1, none⟩ = some (.string (bs (nt (dN D).natAbs))) := Hs.out.cell 1
      have fs1 : w5.frozen? ⟨w.heap.size + 1, 1, none⟩ = false := Hs.out.free 1
      have s2 : w5.cell? ⟨w.heap.size + 1, 2, none⟩ = some (.int .i64 (dE D)) := Hs.out.cell 2
      have fs2 : w5.frozen? ⟨w.heap.size + 1, 2, none⟩ = false := Hs.out.free 2
      have c0 : w5.cell? ⟨wr.heap.size, 0, none⟩ = some (.bool t1) := Hc.out.cell 0
      have c1 : w5.cell? ⟨wr.heap.size, 1, none⟩ = some (.string (bs l1)) := Hc.out.cell 1
      have c2 : w5.cell? ⟨wr.heap.size, 2, none⟩ = some (.int .i64 e1) := Hc.out.cell 2
      have p0 : w5.cell? ⟨w1.heap.size, 0, none⟩ = some (.int .i64 g) := Hp.out.cell 0
      have p1 : w5.cell? ⟨w1.heap.size, 1, none⟩ = some (.bool (sgnB X)) := Hp.out.cell 1
      have p2 : w5.cell? ⟨w1.heap.size, 2, none⟩ = some (.string (bs (nt X.natAbs))) := Hp.out.cell 2
      have p3 : w5.cell? ⟨w1.heap.size, 3, none⟩ = some (.bool (sgnB Y)) := Hp.out.cell 3
      have p4 : w5.cell? ⟨w1.heap.size, 4, none⟩ = some (.string (bs (nt Y.natAbs))) := Hp.out.cell 4
      have v0 : w5.cell? ⟨W2.heap.size, 0, none⟩ = some (.bool (sgnB X)) := Hv.out.cell 0
      have v1 : w5.cell? ⟨W2.heap.size, 1, none⟩ = some (.string (bs (nt X.natAbs))) := Hv.out.cell 1
      have v2 : w5.cell? ⟨W2.heap.size, 2, none⟩ = some (.bool (sgnB Y)) := Hv.out.cell 2
      have v3 : w5.cell? ⟨W2.heap.size, 3, none⟩ = some (.string (bs (nt Y.natAbs))) := Hv.out.cell 3
      replace Hb := Lib.hid hbn; clear hbn
      simp only [wpPlan]
      go_wp2
      go_roundw
      case rel =>
        refine ⟨k + 1, by omega, by go_num, Hr.out, ?_, Hb.out⟩
        rw [Hst.out]; exact Hs.out
      case measure => simp [intOf]; omega
    · obtain rfl : k = xs.length := by omega
      rw [List.take_length] at Hs
      unfold numC canon at Hs
      simp only at Hs
      have r0 : wr.cell? ⟨w.heap.size, 0, none⟩ = some (.bool false) := Hr.out.cell 0
      have fr0 : wr.frozen? ⟨w.heap.size, 0, none⟩ = false := Hr.out.free 0
      have r1 : wr.cell? ⟨w.heap.size, 1, none⟩ = some (.string (bs [])) := Hr.out.cell 1
      have fr1 : wr.frozen? ⟨w.heap.size, 1, none⟩ = false := Hr.out.free 1
      have r2 : wr.cell? ⟨w.heap.size, 2, none⟩ = some (.int .i64 0) := Hr.out.cell 2
      have fr2 : wr.frozen? ⟨w.heap.size, 2, none⟩ = false := Hr.out.free 2
      have s0 : wr.cell? ⟨w.heap.size + 1, 0, none⟩ = some (.bool (sgnB (dN (dsum xs)))) := Hs.out.cell 0
      have fs0 : wr.frozen? ⟨w.heap.size + 1, 0, none⟩ = false := Hs.out.free 0
      have s1 : wr.cell? ⟨w.heap.size + 1, 1, none⟩ = some (.string (bs (nt (dN (dsum xs)).natAbs))) := Hs.out.cell 1
      have fs1 : wr.frozen? ⟨w.heap.size + 1, 1, none⟩ = false := Hs.out.free 1
      have s2 : wr.cell? ⟨w.heap.size + 1, 2, none⟩ = some (.int .i64 (dE (dsum xs))) := Hs.out.cell 2
      have fs2 : wr.frozen? ⟨w.heap.size + 1, 2, none⟩ = false := Hs.out.free 2
      go_wp2
      refine bodyPost_ret (v := numV (dsum xs)) (by simp [results, Tryz.results28, go_sem, r0, r1, r2]) rfl ⟨rfl, ?_⟩
      (repeat first | exact Hb.out | (refine Below.setCell ?_ (by have := Hb.out.size; first | (dsimp only; omega) | (show _ ≤ _; omega) | (simp <;> omega)) _) | (refine Below.alloc ?_ (by have := Hb.out.size; simp <;> omega) _) | refine Below.drew ?_)

theorem Sm.one : Sm 1 1 := ⟨2, by rfl, by decide⟩
theorem dsum_sm {B : Nat} (xs : List Raw) (h : ∀ x ∈ xs, Sm B (dval x)) : Sm (B + xs.length) (dsum xs) := by
  induction xs with
  | nil => exact Sm.zero _
  | cons x xs ih =>
    have h1 := h x (by simp)
    have h2 := ih (fun y hy => h y (by simp [hy]))
    exact (Sm.add (h1.mono (by omega : B ≤ B + xs.length)) h2)
theorem dprod_sm {B : Nat} (xs : List Raw) (h : ∀ x ∈ xs, Sm B (dval x)) : Sm (B * xs.length + 1) (dprod xs) := by
  induction xs with
  | nil => exact Sm.one
  | cons x xs ih =>
    have h1 := h x (by simp)
    have h2 := ih (fun y hy => h y (by simp [hy]))
    have := Sm.mul h1 h2
    rw [show B * (x :: xs).length + 1 = B + (B * xs.length + 1) by rw [List.length_cons, Nat.mul_add]; omega]
    exact this

/-- A number that may be reckoned with, of so many bits. -/
def Fit (B : Nat) (x : Raw) : Prop := Ok x ∧ Sm B (dval x)
theorem Fit.mono {A B : Nat} {x : Raw} (h : Fit A x) (hAB : A ≤ B) : Fit B x := ⟨h.1, h.2.mono hAB⟩
theorem Sm.fit {B : Nat} {d : Dyadic} (h : Sm B d) (hB : B ≤ 268435456) : Fit B (canon d) := ⟨h.ok hB, by rw [dval_canon]; exact h⟩

theorem dAdd_fit (xs : List Raw) (B : Nat) (S : Dyadic) (hS : dsum xs = S) (a : Option Addr) (cap : Nat) (w : World) (hl : ∀ x ∈ xs, Fit B x) (hB : B + xs.length ≤ 268435456) (hx : xs.length ≤ 1048576)
    (ha : At w a (xs.flatMap numC)) (hT : Tab w) :
    Calls Tryz.prog 28 #[.slice a xs.length cap] w fun e w' => e = .returned (numV S) ∧ Below w.heap.size w w' := by
  subst hS
  refine dAdd_any xs a cap w (fun x h => (hl x h).1) (fun k => ?_) hx ha hT
  refine Sm.ok (B := B + xs.length) (Sm.mono (dsum_sm (B := B) _ (fun x h => (hl x (List.mem_of_mem_take h)).2)) ?_) hB
  rw [List.length_take]; omega

set_option maxHeartbeats 4000000 in
set_option maxRecDepth 100000 in
theorem dMul_any (xs : List Raw) (a : Option Addr) (cap : Nat) (w : World) (hl : ∀ x ∈ xs, Ok x) (hS : ∀ k, Ok (canon (dprod (xs.take k)))) (hx : xs.length ≤ 1048576)
    (ha : At w a (xs.flatMap numC)) (hT : Tab w) :
    Calls Tryz.prog 45 #[.slice a xs.length cap] w fun e w' => e = .returned (numV (dprod xs)) ∧ Below w.heap.size w w' := by
  have Hl := Lib.hid hl; clear hl
  have HS := Lib.hid hS; clear hS
  have Ha := Lib.hid ha; clear ha
  have HT0 := Lib.hid hT; clear hT
  obtain ⟨I, hI⟩ : ∃ I : Dyadic, 1 = I := ⟨_, rfl⟩
  have HI : Hid (Dyadic.ofIntWithPrec 1 0 = I) := by show _ = _; rw [← hI]; rfl
  have HI1 := Lib.hid hI; clear hI
  go_enter Tryz.func45, Tryz.ntmps45
  have Hb : Hid (Below w.heap.size w w) := Below.refl _ _
  go_wp2_with fail
  first | refine wp_world (fun W => Blk W (w.heap.size) 36 [.bool false, .string (bs []), .int .i64 0] ∧ Below w.heap.size w W) ?hR ?_ | refine calls_world (fun W => Blk W (w.heap.size) 36 [.bool false, .string (bs []), .int .i64 0] ∧ Below w.heap.size w W) ?hR ?_
  case hR => exact ⟨(Blk.newAt w _ _ (b := w.heap.size) rfl), ((Below.refl _ _).alloc (Nat.le_refl _) _)⟩
  rintro W ⟨qr, hbn⟩
  have Hr := Lib.hid qr; clear qr
  have r0 : W.cell? ⟨w.heap.size, 0, none⟩ = some (.bool false) := Hr.out.cell 0
  have fr0 : W.frozen? ⟨w.heap.size, 0, none⟩ = false := Hr.out.free 0
  have r1 : W.cell? ⟨w.heap.size, 1, none⟩ = some (.string (bs [])) := Hr.out.cell 1
  have fr1 : W.frozen? ⟨w.heap.size, 1, none⟩ = false := Hr.out.free 1
  have r2 : W.cell? ⟨w.heap.size, 2, none⟩ = some (.int .i64 0) := Hr.out.cell 2
  have fr2 : W.frozen? ⟨w.heap.size, 2, none⟩ = false := Hr.out.free 2
  replace Hb := Lib.hid (bnext Hb.out hbn); clear hbn
  have HT := Lib.hid (HT0.out.below Hb.out)
  go_wp2_with fail
  refine (dOf_any 1 I HI.out _ (by omega) HT.out).mono ?_
  rintro e w2 ⟨rfl, hbn⟩
  clear r0 fr0 r1 fr1 r2 fr2
  replace Hr := Lib.hid (Hr.out.below hbn)
  have r0 : w2.cell? ⟨w.heap.size, 0, none⟩ = some (.bool false) := Hr.out.cell 0
  have fr0 : w2.frozen? ⟨w.heap.size, 0, none⟩ = false := Hr.out.free 0
  have r1 : w2.cell? ⟨w.heap.size, 1, none⟩ = some (.string (bs [])) := Hr.out.cell 1
  have fr1 : w2.frozen? ⟨w.heap.size, 1, none⟩ = false := Hr.out.free 1
  have r2 : w2.cell? ⟨w.heap.size, 2, none⟩ = some (.int .i64 0) := Hr.out.cell 2
  have fr2 : w2.frozen? ⟨w.heap.size, 2, none⟩ = false := Hr.out.free 2
  replace Hb := Lib.hid (bnext Hb.out hbn); clear hbn
  have lz_r_W2 : w.heap.size < w2.heap.size := Hr.out.lt
  go_wp2_with fail
  first | refine wp_world (fun W2 => Blk W2 (w2.heap.size) 36 [.bool (sgnB (dN I)), .string (bs (nt (dN I).natAbs)), .int .i64 (dE I)] ∧ Below w2.heap.size w2 W2) ?hR ?_ | refine calls_world (fun W2 => Blk W2 (w2.heap.size) 36 [.bool (sgnB (dN I)), .string (bs (nt (dN I).natAbs)), .int .i64 (dE I)] ∧ Below w2.heap.size w2 W2) ?hR ?_
  case hR => exact ⟨(Blk.newAt w2 _ _ (b := w2.heap.size) rfl), ((Below.refl _ _).alloc (Nat.le_refl _) _)⟩
  rintro W2 ⟨qs, hbn⟩
  have Hs := Lib.hid qs; clear qs
  clear r0 fr0 r1 fr1 r2 fr2
  replace Hr := Lib.hid (Hr.out.below hbn)
  have r0 : W2.cell? ⟨w.heap.size, 0, none⟩ = some (.bool false) := Hr.out.cell 0
  have fr0 : W2.frozen? ⟨w.heap.size, 0, none⟩ = false := Hr.out.free 0
  have r1 : W2.cell? ⟨w.heap.size, 1, none⟩ = some (.string (bs [])) := Hr.out.cell 1
  have fr1 : W2.frozen? ⟨w.heap.size, 1, none⟩ = false := Hr.out.free 1
  have r2 : W2.cell? ⟨w.heap.size, 2, none⟩ = some (.int .i64 0) := Hr.out.cell 2
  have fr2 : W2.frozen? ⟨w.heap.size, 2, none⟩ = false := Hr.out.free 2
  have s0 : W2.cell? ⟨w2.heap.size, 0, none⟩ = some (.bool (sgnB (dN I))) := Hs.out.cell 0
  have fs0 : W2.frozen? ⟨w2.heap.size, 0, none⟩ = false := Hs.out.free 0
  have s1 : W2.cell? ⟨w2.heap.size, 1, none⟩ = some (.string (bs (nt (dN I).natAbs))) := Hs.out.cell 1
  have fs1 : W2.frozen? ⟨w2.heap.size, 1, none⟩ = false := Hs.out.free 1
  have s2 : W2.cell? ⟨w2.heap.size, 2, none⟩ = some (.int .i64 (dE I)) := Hs.out.cell 2
  have fs2 : W2.frozen? ⟨w2.heap.size, 2, none⟩ = false := Hs.out.free 2
  replace Hb := Lib.hid (bnext Hb.out hbn); clear hbn
  go_loopw [5, 9] (fun _ i wr => ∃ (k : Nat), k ≤ xs.length ∧ i = .int .i64 k ∧ Blk wr w.heap.size 36 [.bool false, .string (bs []), .int .i64 0] ∧
      Blk wr w2.heap.size 36 (numC (canon (dprod (xs.take k)))) ∧ Below w.heap.size w wr) (fun _ i _ => xs.length - (intOf i).toNat)
  case atStart =>
    refine ⟨0, Nat.zero_le _, rfl, Hr.out, ?_, Hb.out⟩
    have e : dprod (xs.take 0) = I := by rw [← HI1.out]; rfl
    rw [e]; exact Hs.out
  case round =>
    obtain ⟨k, hk, rfl, qr, qs, hb⟩ := hrel
    replace Hr := Lib.hid qr; replace Hs := Lib.hid qs; replace Hb := Lib.hid hb; clear qr qs hb r0 r1 r2 fr0 fr1 fr2 s0 s1 s2 fs0 fs1 fs2 HT
    by_cases hlt : k < xs.length
    · obtain ⟨b, o, hab, hcs⟩ := (Ha.out.below Hb.out).elem (f := numC) (sz := 3) (fun _ => rfl) (by decide) k hlt
      have hc0 : wr.cell? ⟨b, o + k * 3, none⟩ = some (.bool xs[k].1) := hcs 0 (by decide)
      have hc1 : wr.cell? ⟨b, o + k * 3 + 1, none⟩ = some (.string (bs xs[k].2.1)) := hcs 1 (by decide)
      have hc2 : wr.cell? ⟨b, o + k * 3 + 2, none⟩ = some (.int .i64 xs[k].2.2) := hcs 2 (by decide)
      have hix := ixs (t := 22) (e := 36) (sz := 3) Tryz.underlying22 (by kernel_rfl) xs.length cap k (k : Int) hab hlt rfl
      have Hst := Lib.hid (dprod_take xs k hlt)
      have HLx : Hid (Ok xs[k]) := Hl.out _ (List.getElem_mem hlt)
      have HL1 := Lib.hid (HS.out k)
      clear hcs hab
      generalize xs[k] = x at *
      obtain ⟨t1, l1, e1⟩ := x
      generalize hS : dprod (xs.take k) = S at *
      clear hS
      obtain ⟨N, hN⟩ : ∃ N, dN S * iv t1 l1 = N := ⟨_, rfl⟩
      obtain ⟨D, hD⟩ : ∃ D, S * dval (t1, l1, e1) = D := ⟨_, rfl⟩
      obtain ⟨g, hg⟩ : ∃ g, dE S + e1 = g := ⟨_, rfl⟩
      have HD : Hid (dval (sgnB N, nt N.natAbs, g) = D) := by
        show _ = _
        rw [dval_int, ← hD, ← hN]
        conv => rhs; rw [owp_parts S]
        unfold dval
        rw [owp_mul]
        congr 1; simp only; omega
      have o1 := HL1.out.exp; have o2 := HLx.out.exp
      have o3 := HL1.out.len; have o4 := HLx.out.len
      have HlN : Hid ((nt N.natAbs).length ≤ 34359738368) := by
        show _ ≤ _
        have h2 := neg_len t1 l1 268435456 o4
        rw [Int.natAbs_neg] at h2
        rw [← hN]; exact Nat.le_trans (mul_len (dN S) (iv t1 l1) _ _ o3 h2) (by decide)
      rw [hD] at Hst
      have LX : Hid ((nt (dN S).natAbs).length ≤ 17179869184) := by show _ ≤ _; omega
      have LY : Hid (l1.length ≤ 17179869184) := by show _ ≤ _; omega
      have Hg : Hid (-1099511627776 ≤ g ∧ g ≤ 1099511627776) := by show _ ∧ _; omega
      have hwg : IntKind.i64.wrap (dE S + e1) = g := by rw [IntKind.wrap_i64]; omega
      have HN : Hid (iv (sgnB (dN S)) (nt (dN S).natAbs) * iv t1 l1 = N) := by show _ = _; rw [iv_int]; exact hN
      clear hg hN hD HL1 HLx o1 o2 o3 o4
      unfold numC canon at Hs
      simp only at Hs
      have hrs : w.heap.size < w2.heap.size := lz_r_W2
      have r0 : wr.cell? ⟨w.heap.size, 0, none⟩ = some (.bool false) := Hr.out.cell 0
      have fr0 : wr.frozen? ⟨w.heap.size, 0, none⟩ = false := Hr.out.free 0
      have r1 : wr.cell? ⟨w.heap.size, 1, none⟩ = some (.string (bs [])) := Hr.out.cell 1
      have fr1 : wr.frozen? ⟨w.heap.size, 1, none⟩ = false := Hr.out.free 1
      have r2 : wr.cell? ⟨w.heap.size, 2, none⟩ = some (.int .i64 0) := Hr.out.cell 2
      have fr2 : wr.frozen? ⟨w.heap.size, 2, none⟩ = false := Hr.out.free 2
      have s0 : wr.cell? ⟨w2.heap.size, 0, none⟩ = some (.bool (sgnB (dN S))) := Hs.out.cell 0
      have fs0 : wr.frozen? ⟨w2.heap.size, 0, none⟩ = false := Hs.out.free 0
      have s1 : wr.cell? ⟨w2.heap.size, 1, none⟩ = some (.string (bs (nt (dN S).natAbs))) := Hs.out.cell 1
      have fs1 : wr.frozen? ⟨w2.heap.size, 1, none⟩ = false := Hs.out.free 1
      have s2 : wr.cell? ⟨w2.heap.size, 2, none⟩ = some (.int .i64 (dE S)) := Hs.out.cell 2
      have fs2 : wr.frozen? ⟨w2.heap.size, 2, none⟩ = false := Hs.out.free 2
      have lz_r_W1 : w.heap.size < wr.heap.size := Hr.out.lt
      have lz_s_W1 : w2.heap.size < wr.heap.size := Hs.out.lt
      go_wp2_with fail
      first | refine wp_world (fun W1 => Blk W1 (wr.heap.size) 36 [.bool t1, .string (bs l1), .int .i64 e1] ∧ Below wr.heap.size wr W1) ?hR ?_ | refine calls_world (fun W1 => Blk W1 (wr.heap.size) 36 [.bool t1, .string (bs l1), .int .i64 e1] ∧ Below wr.heap.size wr W1) ?hR ?_
      case hR => exact ⟨(Blk.newAt wr _ _ (b := wr.heap.size) rfl), ((Below.refl _ _).alloc (Nat.le_refl _) _)⟩
      rintro W1 ⟨qc, hbn⟩
      have Hc := Lib.hid qc; clear qc
      clear r0 fr0 r1 fr1 r2 fr2
      replace Hr := Lib.hid (Hr.out.below hbn)
      have r0 : W1.cell? ⟨w.heap.size, 0, none⟩ = some (.bool false) := Hr.out.cell 0
      have fr0 : W1.frozen? ⟨w.heap.size, 0, none⟩ = false := Hr.out.free 0
      have r1 : W1.cell? ⟨w.heap.size, 1, none⟩ = some (.string (bs [])) := Hr.out.cell 1
      have fr1 : W1.frozen? ⟨w.heap.size, 1, none⟩ = false := Hr.out.free 1
      have r2 : W1.cell? ⟨w.heap.size, 2, none⟩ = some (.int .i64 0) := Hr.out.cell 2
      have fr2 : W1.frozen? ⟨w.heap.size, 2, none⟩ = false := Hr.out.free 2
      clear s0 fs0 s1 fs1 s2 fs2
      replace Hs := Lib.hid (Hs.out.below hbn)
      have s0 : W1.cell? ⟨w2.heap.size, 0, none⟩ = some (.bool (sgnB (dN S))) := Hs.out.cell 0
      have fs0 : W1.frozen? ⟨w2.heap.size, 0, none⟩ = false := Hs.out.free 0
      have s1 : W1.cell? ⟨w2.heap.size, 1, none⟩ = some (.string (bs (nt (dN S).natAbs))) := Hs.out.cell 1
      have fs1 : W1.frozen? ⟨w2.heap.size, 1, none⟩ = false := Hs.out.free 1
      have s2 : W1.cell? ⟨w2.heap.size, 2, none⟩ = some (.int .i64 (dE S)) := Hs.out.cell 2
      have fs2 : W1.frozen? ⟨w2.heap.size, 2, none⟩ = false := Hs.out.free 2
      have c0 : W1.cell? ⟨wr.heap.size, 0, none⟩ = some (.bool t1) := Hc.out.cell 0
      have c1 : W1.cell? ⟨wr.heap.size, 1, none⟩ = some (.string (bs l1)) := Hc.out.cell 1
      have c2 : W1.cell? ⟨wr.heap.size, 2, none⟩ = some (.int .i64 e1) := Hc.out.cell 2
      replace Hb := Lib.hid (bnext Hb.out hbn); clear hbn
      refine wp_region_plan (fun w' => w'.cell? ⟨wr.heap.size, 0, none⟩ = some (.bool t1) ∧ w'.cell? ⟨wr.heap.size, 1, none⟩ = some (.string (bs l1)) ∧ w'.cell? ⟨wr.heap.size, 2, none⟩ = some (.int .i64 e1) ∧ w'.cell? ⟨w2.heap.size, 0, none⟩ = some (.bool (sgnB (dN S))) ∧ w'.cell? ⟨w2.heap.size, 1, none⟩ = some (.string (bs (nt (dN S).natAbs))) ∧ w'.cell? ⟨w2.heap.size, 2, none⟩ = some (.int .i64 (dE S))) (fun i => Nat.blt i 12) [(0, true), (1, true), (2, true), (3, true), (6, true), (7, true), (8, true), (9, true), (10, true), (4, false), (5, false), (11, false), (12, false)] (by kernel_rfl) (by kernel_rfl) rfl (by kernel_rfl) (fun o c a v w => by cases o.dst <;> exact id) ⟨c0, c1, c2, s0, s1, s2⟩ ?_
      refine planT rfl rfl (v := ?_) (fun w' hw' => ?_) ?_; rotate_left; focus (go_simp; try with_reducible rfl)
      try simp only [Act.put, List.setIfInBounds_toArray, List.set_cons_zero, List.set_cons_succ]
      refine planT rfl rfl (v := ?_) (fun w' hw' => ?_) ?_; rotate_left; focus (obtain ⟨q0, q1, q2, q3, q4, q5⟩ := hw'; go_simp; try with_reducible rfl)
      try simp only [Act.put, List.setIfInBounds_toArray, List.set_cons_zero, List.set_cons_succ]
      refine planT rfl rfl (v := ?_) (fun w' hw' => ?_) ?_; rotate_left; focus (go_simp; try with_reducible rfl)
      try simp only [Act.put, List.setIfInBounds_toArray, List.set_cons_zero, List.set_cons_succ]
      refine planT rfl rfl (v := ?_) (fun w' hw' => ?_) ?_; rotate_left; focus (obtain ⟨q0, q1, q2, q3, q4, q5⟩ := hw'; go_simp; try with_reducible rfl)
      try simp only [Act.put, List.setIfInBounds_toArray, List.set_cons_zero, List.set_cons_succ]
      refine planT rfl rfl (v := ?_) (fun w' hw' => ?_) ?_; rotate_left; focus (go_simp; try with_reducible rfl)
      try simp only [Act.put, List.setIfInBounds_toArray, List.set_cons_zero, List.set_cons_succ]
      refine planT rfl rfl (v := ?_) (fun w' hw' => ?_) ?_; rotate_left; focus (obtain ⟨q0, q1, q2, q3, q4, q5⟩ := hw'; go_simp; try with_reducible rfl)
      try simp only [Act.put, List.setIfInBounds_toArray, List.set_cons_zero, List.set_cons_succ]
      refine planT rfl rfl (v := ?_) (fun w' hw' => ?_) ?_; rotate_left; focus (go_simp; try with_reducible rfl)
      try simp only [Act.put, List.setIfInBounds_toArray, List.set_cons_zero, List.set_cons_succ]
      refine planT rfl rfl (v := ?_) (fun w' hw' => ?_) ?_; rotate_left; focus (obtain ⟨q0, q1, q2, q3, q4, q5⟩ := hw'; go_simp; try with_reducible rfl)
      try simp only [Act.put, List.setIfInBounds_toArray, List.set_cons_zero, List.set_cons_succ]
      refine planT rfl rfl (v := ?_) (fun w' hw' => ?_) ?_; rotate_left; focus (go_simp; try with_reducible rfl)
      try simp only [Act.put, List.setIfInBounds_toArray, List.set_cons_zero, List.set_cons_succ]
      refine planF rfl rfl (fun K hK => ?_)
      go_simp
      refine hK _ _ (fun _ => ⟨cell_new c0, cell_new c1, cell_new c2, cell_new s0, cell_new s1, cell_new s2⟩) ?_; clear hK K
      try simp only [Act.put, List.setIfInBounds_toArray, List.set_cons_zero, List.set_cons_succ]
      refine plan_world (fun W3 => Blk W3 (W1.heap.size) 34 [.bool (sgnB (dN S)), .string (bs (nt (dN S).natAbs)), .bool t1, .string (bs l1)] ∧ Below W1.heap.size W1 W3) (by first | exact ⟨Blk.new _ _ _, (Below.refl _ _).alloc (Nat.le_refl _) _⟩ | exact ⟨Blk.drew (Blk.new _ _ _), ((Below.refl _ _).alloc (Nat.le_refl _) _).drew⟩) ?_
      rintro W3 ⟨qv, hbn⟩
      clear r0 fr0 r1 fr1 r2 fr2
      clear s0 fs0 s1 fs1 s2 fs2
      clear c0 c1 c2
      have lz_r_W3 : w.heap.size < W1.heap.size := Hr.out.lt
      have lz_s_W3 : w2.heap.size < W1.heap.size := Hs.out.lt
      have lz_c_W3 : wr.heap.size < W1.heap.size := Hc.out.lt
      replace Hr := Lib.hid (Hr.out.below hbn)
      replace Hs := Lib.hid (Hs.out.below hbn)
      replace Hc := Lib.hid (Hc.out.below hbn)
      have Hv := Lib.hid qv; clear qv
      have r0 : W3.cell? ⟨w.heap.size, 0, none⟩ = some (.bool false) := Hr.out.cell 0
      have fr0 : W3.frozen? ⟨w.heap.size, 0, none⟩ = false := Hr.out.free 0
      have r1 : W3.cell? ⟨w.heap.size, 1, none⟩ = some (.string (bs [])) := Hr.out.cell 1
      have fr1 : W3.frozen? ⟨w.heap.size, 1, none⟩ = false := Hr.out.free 1
      have r2 : W3.cell? ⟨w.heap.size, 2, none⟩ = some (.int .i64 0) := Hr.out.cell 2
      have fr2 : W3.frozen? ⟨w.heap.size, 2, none⟩ = false := Hr.out.free 2
      have s0 : W3.cell? ⟨w2.heap.size, 0, none⟩ = some (.bool (sgnB (dN S))) := Hs.out.cell 0
      have fs0 : W3.frozen? ⟨w2.heap.size, 0, none⟩ = false := Hs.out.free 0
      have s1 : W3.cell? ⟨w2.heap.size, 1, none⟩ = some (.string (bs (nt (dN S).natAbs))) := Hs.out.cell 1
      have fs1 : W3.frozen? ⟨w2.heap.size, 1, none⟩ = false := Hs.out.free 1
      have s2 : W3.cell? ⟨w2.heap.size, 2, none⟩ = some (.int .i64 (dE S)) := Hs.out.cell 2
      have fs2 : W3.frozen? ⟨w2.heap.size, 2, none⟩ = false := Hs.out.free 2
      have c0 : W3.cell? ⟨wr.heap.size, 0, none⟩ = some (.bool t1) := Hc.out.cell 0
      have c1 : W3.cell? ⟨wr.heap.size, 1, none⟩ = some (.string (bs l1)) := Hc.out.cell 1
      have c2 : W3.cell? ⟨wr.heap.size, 2, none⟩ = some (.int .i64 e1) := Hc.out.cell 2
      have v0 : W3.cell? ⟨W1.heap.size, 0, none⟩ = some (.bool (sgnB (dN S))) := Hv.out.cell 0
      have v1 : W3.cell? ⟨W1.heap.size, 1, none⟩ = some (.string (bs (nt (dN S).natAbs))) := Hv.out.cell 1
      have v2 : W3.cell? ⟨W1.heap.size, 2, none⟩ = some (.bool t1) := Hv.out.cell 2
      have v3 : W3.cell? ⟨W1.heap.size, 3, none⟩ = some (.string (bs l1)) := Hv.out.cell 3
      replace Hb := Lib.hid (bnext Hb.out hbn); clear hbn
      refine planF rfl rfl (fun K hK => ?_)
      go_simp
      with_reducible refine (wMul_two (sgnB (dN S)) (nt (dN S).natAbs) t1 l1 N HN.out W1.heap.size 2 34 _ LX.out LY.out Hv.out).mono ?_
      rintro e w3 ⟨rfl, hq⟩
      have hbn : Below W3.heap.size W3 w3 := (by first | exact hq | exact bundrew hq); clear hq
      clear r0 fr0 r1 fr1 r2 fr2
      clear s0 fs0 s1 fs1 s2 fs2
      clear c0 c1 c2
      clear v0 v1 v2 v3
      replace Hr := Lib.hid (Hr.out.below hbn)
      replace Hs := Lib.hid (Hs.out.below hbn)
      replace Hc := Lib.hid (Hc.out.below hbn)
      replace Hv := Lib.hid (Hv.out.below hbn)
      have r0 : w3.cell? ⟨w.heap.size, 0, none⟩ = some (.bool false) := Hr.out.cell 0
      have fr0 : w3.frozen? ⟨w.heap.size, 0, none⟩ = false := Hr.out.free 0
      have r1 : w3.cell? ⟨w.heap.size, 1, none⟩ = some (.string (bs [])) := Hr.out.cell 1
      have fr1 : w3.frozen? ⟨w.heap.size, 1, none⟩ = false := Hr.out.free 1
      have r2 : w3.cell? ⟨w.heap.size, 2, none⟩ = some (.int .i64 0) := Hr.out.cell 2
      have fr2 : w3.frozen? ⟨w.heap.size, 2, none⟩ = false := Hr.out.free 2
      have s0 : w3.cell? ⟨w2.heap.size, 0, none⟩ = some (.bool (sgnB (dN S))) := Hs.out.cell 0
      have fs0 : w3.frozen? ⟨w2.heap.size, 0, none⟩ = false := Hs.out.free 0
      have s1 : w3.cell? ⟨w2.heap.size, 1, none⟩ = some (.string (bs (nt (dN S).natAbs))) := Hs.out.cell 1
      have fs1 : w3.frozen? ⟨w2.heap.size, 1, none⟩ = false := Hs.out.free 1
      have s2 : w3.cell? ⟨w2.heap.size, 2, none⟩ = some (.int .i64 (dE S)) := Hs.out.cell 2
      have fs2 : w3.frozen? ⟨w2.heap.size, 2, none⟩ = false := Hs.out.free 2
      have c0 : w3.cell? ⟨wr.heap.size, 0, none⟩ = some (.bool t1) := Hc.out.cell 0
      have c1 : w3.cell? ⟨wr.heap.size, 1, none⟩ = some (.string (bs l1)) := Hc.out.cell 1
      have c2 : w3.cell? ⟨wr.heap.size, 2, none⟩ = some (.int .i64 e1) := Hc.out.cell 2
      have v0 : w3.cell? ⟨W1.heap.size, 0, none⟩ = some (.bool (sgnB (dN S))) := Hv.out.cell 0
      have v1 : w3.cell? ⟨W1.heap.size, 1, none⟩ = some (.string (bs (nt (dN S).natAbs))) := Hv.out.cell 1
      have v2 : w3.cell? ⟨W1.heap.size, 2, none⟩ = some (.bool t1) := Hv.out.cell 2
      have v3 : w3.cell? ⟨W1.heap.size, 3, none⟩ = some (.string (bs l1)) := Hv.out.cell 3
      replace Hb := Lib.hid (bnext Hb.out hbn); clear hbn
      refine hK _ _ (fun _ => ⟨c0, c1, c2, s0, s1, s2⟩) ?_; clear hK K
      try simp only [Act.put, List.setIfInBounds_toArray, List.set_cons_zero, List.set_cons_succ]
      refine planF rfl rfl (fun K hK => ?_)
      go_simp
      with_reducible refine (make_any (sgnB N) (nt N.natAbs) g D HD.out _ HlN.out Hg.out (by first | exact (HT0.out.below Hb.out) | exact Tab.drew (HT0.out.below Hb.out) | exact Tab.alloc (HT0.out.below Hb.out) _ | exact Tab.drew (Tab.alloc (HT0.out.below Hb.out) _) | exact Tab.alloc (Tab.drew (HT0.out.below Hb.out)) _)).mono ?_
      rintro e w4 ⟨rfl, hq⟩
      have hbn : Below w3.heap.size w3 w4 := (by first | exact hq | exact bundrew hq); clear hq
      clear r0 fr0 r1 fr1 r2 fr2
      clear s0 fs0 s1 fs1 s2 fs2
      clear c0 c1 c2
      clear v0 v1 v2 v3
      replace Hr := Lib.hid (Hr.out.below hbn)
      replace Hs := Lib.hid (Hs.out.below hbn)
      replace Hc := Lib.hid (Hc.out.below hbn)
      replace Hv := Lib.hid (Hv.out.below hbn)
      have r0 : w4.cell? ⟨w.heap.size, 0, none⟩ = some (.bool false) := Hr.out.cell 0
      have fr0 : w4.frozen? ⟨w.heap.size, 0, none⟩ = false := Hr.out.free 0
      have r1 : w4.cell? ⟨w.heap.size, 1, none⟩ = some (.string (bs [])) := Hr.out.cell 1
      have fr1 : w4.frozen? ⟨w.heap.size, 1, none⟩ = false := Hr.out.free 1
      have r2 : w4.cell? ⟨w.heap.size, 2, none⟩ = some (.int .i64 0) := Hr.out.cell 2
      have fr2 : w4.frozen? ⟨w.heap.size, 2, none⟩ = false := Hr.out.free 2
      have s0 : w4.cell? ⟨w2.heap.size, 0, none⟩ = some (.bool (sgnB (dN S))) := Hs.out.cell 0
      have fs0 : w4.frozen? ⟨w2.heap.size, 0, none⟩ = false := Hs.out.free 0
      have s1 : w4.cell? ⟨w2.heap.size, 1, none⟩ = some (.string (bs (nt (dN S).natAbs))) := Hs.out.cell 1
      have fs1 : w4.frozen? ⟨w2.heap.size, 1, none⟩ = false := Hs.out.free 1
      have s2 : w4.cell? ⟨w2.heap.size, 2, none⟩ = some (.int .i64 (dE S)) := Hs.out.cell 2
      have fs2 : w4.frozen? ⟨w2.heap.size, 2, none⟩ = false := Hs.out.free 2
      have c0 : w4.cell? ⟨wr.heap.size, 0, none⟩ = some (.bool t1) := Hc.out.cell 0
      have c1 : w4.cell? ⟨wr.heap.size, 1, none⟩ = some (.string (bs l1)) := Hc.out.cell 1
      have c2 : w4.cell? ⟨wr.heap.size, 2, none⟩ = some (.int .i64 e1) := Hc.out.cell 2
      have v0 : w4.cell? ⟨W1.heap.size, 0, none⟩ = some (.bool (sgnB (dN S))) := Hv.out.cell 0
      have v1 : w4.cell? ⟨W1.heap.size, 1, none⟩ = some (.string (bs (nt (dN S).natAbs))) := Hv.out.cell 1
      have v2 : w4.cell? ⟨W1.heap.size, 2, none⟩ = some (.bool t1) := Hv.out.cell 2
      have v3 : w4.cell? ⟨W1.heap.size, 3, none⟩ = some (.string (bs l1)) := Hv.out.cell 3
      replace Hb := Lib.hid (bnext Hb.out hbn); clear hbn
      refine hK _ _ (fun _ => ⟨c0, c1, c2, s0, s1, s2⟩) ?_; clear hK K
      try simp only [Act.put, List.setIfInBounds_toArray, List.set_cons_zero, List.set_cons_succ]
      refine planF rfl rfl (fun K hK => ?_)
      go_simp
      refine hK _ _ (fun h => absurd h (by decide)) ?_; clear hK K
      try simp only [Act.put, List.setIfInBounds_toArray, List.set_cons_zero, List.set_cons_succ]
      clear r0 fr0 r1 fr1 r2 fr2
      clear s0 fs0 s1 fs1 s2 fs2
      clear c0 c1 c2
      clear v0 v1 v2 v3
      refine plan_world (fun w5 => Blk w5 (w.heap.size) 36 [.bool false, .string (bs []), .int .i64 0] ∧ Blk w5 (w2.heap.size) 36 [.bool (sgnB (dN D)), .string (bs (nt (dN D).natAbs)), .int .i64 (dE D)] ∧ Blk w5 (wr.heap.size) 36 [.bool t1, .string (bs l1), .int .i64 e1] ∧ Blk w5 (W1.heap.size) 34 [.bool (sgnB (dN S)), .string (bs (nt (dN S).natAbs)), .bool t1, .string (bs l1)] ∧ Below w.heap.size w w5) (by first | exact ⟨(((Hr.out.set_other ⟨w2.heap.size, 0, none⟩ (by first | (dsimp only; omega) | (simp <;> omega)) _).set_other ⟨w2.heap.size, 1, none⟩ (by first | (dsimp only; omega) | (simp <;> omega)) _).set_other ⟨w2.heap.size, 2, none⟩ (by first | (dsimp only; omega) | (simp <;> omega)) _), (((Hs.out.set 0 _).set 1 _).set 2 _), (((Hc.out.set_other ⟨w2.heap.size, 0, none⟩ (by first | (dsimp only; omega) | (simp <;> omega)) _).set_other ⟨w2.heap.size, 1, none⟩ (by first | (dsimp only; omega) | (simp <;> omega)) _).set_other ⟨w2.heap.size, 2, none⟩ (by first | (dsimp only; omega) | (simp <;> omega)) _), (((Hv.out.set_other ⟨w2.heap.size, 0, none⟩ (by first | (dsimp only; omega) | (simp <;> omega)) _).set_other ⟨w2.heap.size, 1, none⟩ (by first | (dsimp only; omega) | (simp <;> omega)) _).set_other ⟨w2.heap.size, 2, none⟩ (by first | (dsimp only; omega) | (simp <;> omega)) _), (((Hb.out.setCell (p := ⟨w2.heap.size, 0, none⟩) (by have := Hb.out.size; first | (dsimp only; omega) | (simp <;> omega)) _).setCell (p := ⟨w2.heap.size, 1, none⟩) (by have := Hb.out.size; first | (dsimp only; omega) | (simp <;> omega)) _).setCell (p := ⟨w2.heap.size, 2, none⟩) (by have := Hb.out.size; first | (dsimp only; omega) | (simp <;> omega)) _)⟩ | exact ⟨(((Hr.out.set_other ⟨w2.heap.size, 0, none⟩ (by first | (dsimp only; omega) | (simp <;> omega)) _).set_other ⟨w2.heap.size, 1, none⟩ (by first | (dsimp only; omega) | (simp <;> omega)) _).set_other ⟨w2.heap.size, 2, none⟩ (by first | (dsimp only; omega) | (simp <;> omega)) _), (((Hs.out.set 0 _).set 1 _).set 2 _), (((Hc.out.set_other ⟨w2.heap.size, 0, none⟩ (by first | (dsimp only; omega) | (simp <;> omega)) _).set_other ⟨w2.heap.size, 1, none⟩ (by first | (dsimp only; omega) | (simp <;> omega)) _).set_other ⟨w2.heap.size, 2, none⟩ (by first | (dsimp only; omega) | (simp <;> omega)) _), (((Hv.out.set_other ⟨w2.heap.size, 0, none⟩ (by first | (dsimp only; omega) | (simp <;> omega)) _).set_other ⟨w2.heap.size, 1, none⟩ (by first | (dsimp only; omega) | (simp <;> omega)) _).set_other ⟨w2.heap.size, 2, none⟩ (by first | (dsimp only; omega) | (simp <;> omega)) _), Below.drew (((Hb.out.setCell (p := ⟨w2.heap.size, 0, none⟩) (by have := Hb.out.size; first | (dsimp only; omega) | (simp <;> omega)) _).setCell (p := ⟨w2.heap.size, 1, none⟩) (by have := Hb.out.size; first | (dsimp only; omega) | (simp <;> omega)) _).setCell (p := ⟨w2.heap.size, 2, none⟩) (by have := Hb.out.size; first | (dsimp only; omega) | (simp <;> omega)) _)⟩) ?_
      rintro w5 ⟨qr, qs, qc, qv, hbn⟩
      replace Hr := Lib.hid qr; clear qr
      replace Hs := Lib.hid qs; clear qs
      replace Hc := Lib.hid qc; clear qc
      replace Hv := Lib.hid qv; clear qv
      have r0 : w5.cell? ⟨w.heap.size, 0, none⟩ = some (.bool false) := Hr.out.cell 0
      have fr0 : w5.frozen? ⟨w.heap.size, 0, none⟩ = false := Hr.out.free 0
      have r1 : w5.cell? ⟨w.heap.size, 1, none⟩ = some (.string (bs [])) := Hr.out.cell 1
      have fr1 : w5.frozen? ⟨w.heap.size, 1, none⟩ = false := Hr.out.free 1
      have r2 : w5.cell? ⟨w.heap.size, 2, none⟩ = some (.int .i64 0) := Hr.out.cell 2
      have fr2 : w5.frozen? ⟨w.heap.size, 2, none⟩ = false := Hr.out.free 2
      have s0 : w5.cell? ⟨w2.heap.size, 0, none⟩ = some (.bool (sgnB (dN D))) := Hs.out.cell 0
      have fs0 : w5.frozen? ⟨w2.heap.size, 0, none⟩ = false := Hs.out.free 0
      have s1 : w5.cell? ⟨w2.heap.size, 1, none⟩ = some (.string (bs (nt (dN D).natAbs))) := Hs.out.cell 1
      have fs1 : w5.frozen? ⟨w2.heap.size, 1, none⟩ = false := Hs.out.free 1
      have s2 : w5.cell? ⟨w2.heap.size, 2, none⟩ = some (.int .i64 (dE D)) := Hs.out.cell 2
      have fs2 : w5.frozen? ⟨w2.heap.size, 2, none⟩ = false := Hs.out.free 2
      have c0 : w5.cell? ⟨wr.heap.size, 0, none⟩ = some (.bool t1) := Hc.out.cell 0
      have c1 : w5.cell? ⟨wr.heap.size, 1, none⟩ = some (.string (bs l1)) := Hc.out.cell 1
      have c2 : w5.cell? ⟨wr.heap.size, 2, none⟩ = some (.int .i64 e1) := Hc.out.cell 2
      have v0 : w5.cell? ⟨W1.heap.size, 0, none⟩ = some (.bool (sgnB (dN S))) := Hv.out.cell 0
      have v1 : w5.cell? ⟨W1.heap.size, 1, none⟩ = some (.string (bs (nt (dN S).natAbs))) := Hv.out.cell 1
      have v2 : w5.cell? ⟨W1.heap.size, 2, none⟩ = some (.bool t1) := Hv.out.cell 2
      have v3 : w5.cell? ⟨W1.heap.size, 3, none⟩ = some (.string (bs l1)) := Hv.out.cell 3
      replace Hb := Lib.hid hbn; clear hbn
      simp only [wpPlan]
      go_wp2
      go_roundw
      case rel =>
        refine ⟨k + 1, by omega, by go_num, Hr.out, ?_, Hb.out⟩
        rw [Hst.out]; exact Hs.out
      case measure => simp [intOf]; omega
    · obtain rfl : k = xs.length := by omega
      rw [List.take_length] at Hs
      unfold numC canon at Hs
      simp only at Hs
      have r0 : wr.cell? ⟨w.heap.size, 0, none⟩ = some (.bool false) := Hr.out.cell 0
      have fr0 : wr.frozen? ⟨w.heap.size, 0, none⟩ = false := Hr.out.free 0
      have r1 : wr.cell? ⟨w.heap.size, 1, none⟩ = some (.string (bs [])) := Hr.out.cell 1
      have fr1 : wr.frozen? ⟨w.heap.size, 1, none⟩ = false := Hr.out.free 1
      have r2 : wr.cell? ⟨w.heap.size, 2, none⟩ = some (.int .i64 0) := Hr.out.cell 2
      have fr2 : wr.frozen? ⟨w.heap.size, 2, none⟩ = false := Hr.out.free 2
      have s0 : wr.cell? ⟨w2.heap.size, 0, none⟩ = some (.bool (sgnB (dN (dprod xs)))) := Hs.out.cell 0
      have fs0 : wr.frozen? ⟨w2.heap.size, 0, none⟩ = false := Hs.out.free 0
      have s1 : wr.cell? ⟨w2.heap.size, 1, none⟩ = some (.string (bs (nt (dN (dprod xs)).natAbs))) := Hs.out.cell 1
      have fs1 : wr.frozen? ⟨w2.heap.size, 1, none⟩ = false := Hs.out.free 1
      have s2 : wr.cell? ⟨w2.heap.size, 2, none⟩ = some (.int .i64 (dE (dprod xs))) := Hs.out.cell 2
      have fs2 : wr.frozen? ⟨w2.heap.size, 2, none⟩ = false := Hs.out.free 2
      go_wp2
      refine bodyPost_ret (v := numV (dprod xs)) (by simp [results, Tryz.results45, go_sem, r0, r1, r2]) rfl ⟨rfl, ?_⟩
      (repeat first | exact Hb.out | (refine Below.setCell ?_ (by have := Hb.out.size; first | (dsimp only; omega) | (show _ ≤ _; omega) | (simp <;> omega)) _) | (refine Below.alloc ?_ (by have := Hb.out.size; simp <;> omega) _) | refine Below.drew ?_)

theorem dMul_fit (xs : List Raw) (B : Nat) (S : Dyadic) (hS : dprod xs = S) (a : Option Addr) (cap : Nat) (w : World) (hl : ∀ x ∈ xs, Fit B x) (hB : B * xs.length + 1 ≤ 268435456) (hx : xs.length ≤ 1048576)
    (ha : At w a (xs.flatMap numC)) (hT : Tab w) :
    Calls Tryz.prog 45 #[.slice a xs.length cap] w fun e w' => e = .returned (numV S) ∧ Below w.heap.size w w' := by
  subst hS
  refine dMul_any xs a cap w (fun x h => (hl x h).1) (fun k => ?_) hx ha hT
  refine Sm.ok (B := B * xs.length + 1) (Sm.mono (dprod_sm (B := B) _ (fun x h => (hl x (List.mem_of_mem_take h)).2)) ?_) hB
  rw [List.length_take]
  have : B * min k xs.length ≤ B * xs.length := Nat.mul_le_mul_left _ (by omega)
  omega

theorem dAdd_two (s : Bool) (l : List UInt8) (e : Int) (t : Bool) (m : List UInt8) (f : Int) (S : Dyadic) (B : Nat) (hS : dval (s, l, e) + dval (t, m, f) = S) (b cap : Nat) (ty : TypeId) (w : World) (hx : Fit B (s, l, e)) (hy : Fit B (t, m, f)) (hB : B + 2 ≤ 268435456)
    (ha : Blk w b ty [.bool s, .string (bs l), .int .i64 e, .bool t, .string (bs m), .int .i64 f]) (hT : Tab w) :
    Calls Tryz.prog 28 #[.slice (some ⟨b, 0, none⟩) 2 cap] w fun e w' => e = .returned (numV S) ∧ Below w.heap.size w w' :=
  dAdd_fit [(s, l, e), (t, m, f)] B S (by rw [← hS]; simp only [dsum]; grind) _ cap w (by intro x h; simp at h; rcases h with rfl | rfl; exact hx; exact hy) hB (by simp) (At.of_blk ha) hT
theorem dMul_two (s : Bool) (l : List UInt8) (e : Int) (t : Bool) (m : List UInt8) (f : Int) (S : Dyadic) (B : Nat) (hS : dval (s, l, e) * dval (t, m, f) = S) (b cap : Nat) (ty : TypeId) (w : World) (hx : Fit B (s, l, e)) (hy : Fit B (t, m, f)) (hB : 2 * B + 1 ≤ 268435456)
    (ha : Blk w b ty [.bool s, .string (bs l), .int .i64 e, .bool t, .string (bs m), .int .i64 f]) (hT : Tab w) :
    Calls Tryz.prog 45 #[.slice (some ⟨b, 0, none⟩) 2 cap] w fun e w' => e = .returned (numV S) ∧ Below w.heap.size w w' :=
  dMul_fit [(s, l, e), (t, m, f)] B S (by rw [← hS]; simp only [dprod]; grind) _ cap w (by intro x h; simp at h; rcases h with rfl | rfl; exact hx; exact hy) (by simp; omega) (by simp) (At.of_blk ha) hT

theorem dNeg_fit (s : Bool) (l : List UInt8) (e : Int) (D : Dyadic) (hD : -dval (s, l, e) = D) (w : World) (hx : Ok (s, l, e)) (hT : Tab w) :
    Calls Tryz.prog 102 #[.agg #[.bool s, .string (bs l), .int .i64 e]] w fun ex w' => ex = .returned (numV D) ∧ Below w.heap.size w w' := dNeg_any s l e D hD w hx hT

set_option maxHeartbeats 2000000 in
theorem dSub_fit (s : Bool) (l : List UInt8) (e : Int) (t : Bool) (m : List UInt8) (f : Int) (S : Dyadic) (B : Nat) (hS : dval (s, l, e) - dval (t, m, f) = S) (w : World) (hx : Fit B (s, l, e)) (hy : Fit B (t, m, f)) (hB : B + 2 ≤ 268435456) (hT : Tab w) :
    Calls Tryz.prog 79 #[.agg #[.bool s, .string (bs l), .int .i64 e], .agg #[.bool t, .string (bs m), .int .i64 f]] w fun e w' => e = .returned (numV S) ∧ Below w.heap.size w w' := by
  obtain ⟨D, hD⟩ : ∃ D, -dval (t, m, f) = D := ⟨_, rfl⟩
  have Hn : Hid (Fit B (sgnB (dN D), nt (dN D).natAbs, dE D)) := by rw [← hD]; exact (hy.2.neg).fit (by omega)
  have HS : Hid (dval (s, l, e) + dval (sgnB (dN D), nt (dN D).natAbs, dE D) = S) := by show _ + dval (canon D) = _; rw [dval_canon, ← hD, ← hS]; grind
  have Hyo := Lib.hid hy.1
  have HD := Lib.hid hD; have Hx0 := Lib.hid hx; have Hy0 := Lib.hid hy
  clear hD hx hy hS
  go_enter Tryz.func79, Tryz.ntmps79
  have Hb : Hid (Below w.heap.size w w) := Below.refl _ _
  go_wp2_with fail
  first | refine wp_world (fun W => Blk W (w.heap.size) 36 [.bool s, .string (bs l), .int .i64 e] ∧ Blk W (w.heap.size + 1) 36 [.bool t, .string (bs m), .int .i64 f] ∧ Blk W (w.heap.size + 1 + 1) 36 [.bool false, .string (bs []), .int .i64 0] ∧ Below w.heap.size w W) ?hR ?_ | refine calls_world (fun W => Blk W (w.heap.size) 36 [.bool s, .string (bs l), .int .i64 e] ∧ Blk W (w.heap.size + 1) 36 [.bool t, .string (bs m), .int .i64 f] ∧ Blk W (w.heap.size + 1 + 1) 36 [.bool false, .string (bs []), .int .i64 0] ∧ Below w.heap.size w W) ?hR ?_
  case hR => exact ⟨(((Blk.newAt w _ _ (b := w.heap.size) rfl).alloc _).alloc _), ((Blk.newAt (w.alloc _) _ _ (b := w.heap.size + 1) (by simp)).alloc _), (Blk.newAt ((w.alloc _).alloc _) _ _ (b := w.heap.size + 1 + 1) (by simp)), ((((Below.refl _ _).alloc (Nat.le_refl _) _).alloc (by simp <;> omega) _).alloc (by simp <;> omega) _)⟩
  rintro W ⟨qx, qy, qr, hbn⟩
  have Hx := Lib.hid qx; clear qx
  have Hy := Lib.hid qy; clear qy
  have Hr := Lib.hid qr; clear qr
  have x0 : W.cell? ⟨w.heap.size, 0, none⟩ = some (.bool s) := Hx.out.cell 0
  have x1 : W.cell? ⟨w.heap.size, 1, none⟩ = some (.string (bs l)) := Hx.out.cell 1
  have x2 : W.cell? ⟨w.heap.size, 2, none⟩ = some (.int .i64 e) := Hx.out.cell 2
  have y0 : W.cell? ⟨w.heap.size + 1, 0, none⟩ = some (.bool t) := Hy.out.cell 0
  have y1 : W.cell? ⟨w.heap.size + 1, 1, none⟩ = some (.string (bs m)) := Hy.out.cell 1
  have y2 : W.cell? ⟨w.heap.size + 1, 2, none⟩ = some (.int .i64 f) := Hy.out.cell 2
  have r0 : W.cell? ⟨w.heap.size + 1 + 1, 0, none⟩ = some (.bool false) := Hr.out.cell 0
  have fr0 : W.frozen? ⟨w.heap.size + 1 + 1, 0, none⟩ = false := Hr.out.free 0
  have r1 : W.cell? ⟨w.heap.size + 1 + 1, 1, none⟩ = some (.string (bs [])) := Hr.out.cell 1
  have fr1 : W.frozen? ⟨w.heap.size + 1 + 1, 1, none⟩ = false := Hr.out.free 1
  have r2 : W.cell? ⟨w.heap.size + 1 + 1, 2, none⟩ = some (.int .i64 0) := Hr.out.cell 2
  have fr2 : W.frozen? ⟨w.heap.size + 1 + 1, 2, none⟩ = false := Hr.out.free 2
  replace Hb := Lib.hid (bnext Hb.out hbn); clear hbn
  refine wp_region_plan (fun w' => w'.cell? ⟨w.heap.size, 0, none⟩ = some (.bool s) ∧ w'.cell? ⟨w.heap.size, 1, none⟩ = some (.string (bs l)) ∧ w'.cell? ⟨w.heap.size, 2, none⟩ = some (.int .i64 e) ∧ w'.cell? ⟨w.heap.size + 1, 0, none⟩ = some (.bool t) ∧ w'.cell? ⟨w.heap.size + 1, 1, none⟩ = some (.string (bs m)) ∧ w'.cell? ⟨w.heap.size + 1, 2, none⟩ = some (.int .i64 f)) (fun i => Nat.blt i 5) [(0, true), (1, true), (2, false), (3, false), (4, false), (5, false)] (by kernel_rfl) (by kernel_rfl) rfl (by kernel_rfl) (fun o c a v w => by cases o.dst <;> exact id) ⟨x0, x1, x2, y0, y1, y2⟩ ?_
  refine planT rfl rfl (v := ?_) (fun w' hw' => ?_) ?_; rotate_left; focus (obtain ⟨q0, q1, q2, q3, q4, q5⟩ := hw'; go_simp; try with_reducible rfl)
  try simp only [Act.put, List.setIfInBounds_toArray, List.set_cons_zero, List.set_cons_succ]
  refine planT rfl rfl (v := ?_) (fun w' hw' => ?_) ?_; rotate_left; focus (obtain ⟨q0, q1, q2, q3, q4, q5⟩ := hw'; go_simp; try with_reducible rfl)
  try simp only [Act.put, List.setIfInBounds_toArray, List.set_cons_zero, List.set_cons_succ]
  refine planF rfl rfl (fun K hK => ?_)
  go_simp
  with_reducible refine (dNeg_any t m f D HD.out _ Hyo.out (by first | exact (hT.below Hb.out) | exact Tab.drew (hT.below Hb.out) | exact Tab.alloc (hT.below Hb.out) _ | exact Tab.drew (Tab.alloc (hT.below Hb.out) _) | exact Tab.alloc (Tab.drew (hT.below Hb.out)) _)).mono ?_
  rintro e w1 ⟨rfl, hq⟩
  have hbn : Below W.heap.size W w1 := (by first | exact hq | exact bundrew hq); clear hq
  clear x0 x1 x2
  clear y0 y1 y2
  clear r0 fr0 r1 fr1 r2 fr2
  replace Hx := Lib.hid (Hx.out.below hbn)
  replace Hy := Lib.hid (Hy.out.below hbn)
  replace Hr := Lib.hid (Hr.out.below hbn)
  have x0 : w1.cell? ⟨w.heap.size, 0, none⟩ = some (.bool s) := Hx.out.cell 0
  have x1 : w1.cell? ⟨w.heap.size, 1, none⟩ = some (.string (bs l)) := Hx.out.cell 1
  have x2 : w1.cell? ⟨w.heap.size, 2, none⟩ = some (.int .i64 e) := Hx.out.cell 2
  have y0 : w1.cell? ⟨w.heap.size + 1, 0, none⟩ = some (.bool t) := Hy.out.cell 0
  have y1 : w1.cell? ⟨w.heap.size + 1, 1, none⟩ = some (.string (bs m)) := Hy.out.cell 1
  have y2 : w1.cell? ⟨w.heap.size + 1, 2, none⟩ = some (.int .i64 f) := Hy.out.cell 2
  have r0 : w1.cell? ⟨w.heap.size + 1 + 1, 0, none⟩ = some (.bool false) := Hr.out.cell 0
  have fr0 : w1.frozen? ⟨w.heap.size + 1 + 1, 0, none⟩ = false := Hr.out.free 0
  have r1 : w1.cell? ⟨w.heap.size + 1 + 1, 1, none⟩ = some (.string (bs [])) := Hr.out.cell 1
  have fr1 : w1.frozen? ⟨w.heap.size + 1 + 1, 1, none⟩ = false := Hr.out.free 1
  have r2 : w1.cell? ⟨w.heap.size + 1 + 1, 2, none⟩ = some (.int .i64 0) := Hr.out.cell 2
  have fr2 : w1.frozen? ⟨w.heap.size + 1 + 1, 2, none⟩ = false := Hr.out.free 2
  replace Hb := Lib.hid (bnext Hb.out hbn); clear hbn
  refine hK _ _ (fun _ => ⟨x0, x1, x2, y0, y1, y2⟩) ?_; clear hK K
  try simp only [Act.put, List.setIfInBounds_toArray, List.set_cons_zero, List.set_cons_succ]
  refine planF rfl rfl (fun K hK => ?_)
  go_simp
  refine hK _ _ (fun _ => ⟨cell_new x0, cell_new x1, cell_new x2, cell_new y0, cell_new y1, cell_new y2⟩) ?_; clear hK K
  try simp only [Act.put, List.setIfInBounds_toArray, List.set_cons_zero, List.set_cons_succ]
  refine plan_world (fun W1 => Blk W1 (w1.heap.size) 36 [.bool s, .string (bs l), .int .i64 e, .bool (sgnB (dN D)), .string (bs (nt (dN D).natAbs)), .int .i64 (dE D)] ∧ Below w1.heap.size w1 W1) (by first | exact ⟨Blk.new _ _ _, (Below.refl _ _).alloc (Nat.le_refl _) _⟩ | exact ⟨Blk.drew (Blk.new _ _ _), ((Below.refl _ _).alloc (Nat.le_refl _) _).drew⟩) ?_
  rintro W1 ⟨qv, hbn⟩
  clear x0 x1 x2
  clear y0 y1 y2
  clear r0 fr0 r1 fr1 r2 fr2
  have lz_x_W1 : w.heap.size < w1.heap.size := Hx.out.lt
  have lz_y_W1 : w.heap.size + 1 < w1.heap.size := Hy.out.lt
  have lz_r_W1 : w.heap.size + 1 + 1 < w1.heap.size := Hr.out.lt
  replace Hx := Lib.hid (Hx.out.below hbn)
  replace Hy := Lib.hid (Hy.out.below hbn)
  replace Hr := Lib.hid (Hr.out.below hbn)
  have Hv := Lib.hid qv; clear qv
  have x0 : W1.cell? ⟨w.heap.size, 0, none⟩ = some (.bool s) := Hx.out.cell 0
  have x1 : W1.cell? ⟨w.heap.size, 1, none⟩ = some (.string (bs l)) := Hx.out.cell 1
  have x2 : W1.cell? ⟨w.heap.size, 2, none⟩ = some (.int .i64 e) := Hx.out.cell 2
  have y0 : W1.cell? ⟨w.heap.size + 1, 0, none⟩ = some (.bool t) := Hy.out.cell 0
  have y1 : W1.cell? ⟨w.heap.size + 1, 1, none⟩ = some (.string (bs m)) := Hy.out.cell 1
  have y2 : W1.cell? ⟨w.heap.size + 1, 2, none⟩ = some (.int .i64 f) := Hy.out.cell 2
  have r0 : W1.cell? ⟨w.heap.size + 1 + 1, 0, none⟩ = some (.bool false) := Hr.out.cell 0
  have fr0 : W1.frozen? ⟨w.heap.size + 1 + 1, 0, none⟩ = false := Hr.out.free 0
  have r1 : W1.cell? ⟨w.heap.size + 1 + 1, 1, none⟩ = some (.string (bs [])) := Hr.out.cell 1
  have fr1 : W1.frozen? ⟨w.heap.size + 1 + 1, 1, none⟩ = false := Hr.out.free 1
  have r2 : W1.cell? ⟨w.heap.size + 1 + 1, 2, none⟩ = some (.int .i64 0) := Hr.out.cell 2
  have fr2 : W1.frozen? ⟨w.heap.size + 1 + 1, 2, none⟩ = false := Hr.out.free 2
  have v0 : W1.cell? ⟨w1.heap.size, 0, none⟩ = some (.bool s) := Hv.out.cell 0
  have v1 : W1.cell? ⟨w1.heap.size, 1, none⟩ = some (.string (bs l)) := Hv.out.cell 1
  have v2 : W1.cell? ⟨w1.heap.size, 2, none⟩ = some (.int .i64 e) := Hv.out.cell 2
  have v3 : W1.cell? ⟨w1.heap.size, 3, none⟩ = some (.bool (sgnB (dN D))) := Hv.out.cell 3
  have v4 : W1.cell? ⟨w1.heap.size, 4, none⟩ = some (.string (bs (nt (dN D).natAbs))) := Hv.out.cell 4
  have v5 : W1.cell? ⟨w1.heap.size, 5, none⟩ = some (.int .i64 (dE D)) := Hv.out.cell 5
  replace Hb := Lib.hid (bnext Hb.out hbn); clear hbn
  refine planF rfl rfl (fun K hK => ?_)
  go_simp
  with_reducible refine (dAdd_two s l e (sgnB (dN D)) (nt (dN D).natAbs) (dE D) S B HS.out w1.heap.size 2 36 _ Hx0.out Hn.out hB Hv.out (by first | exact (hT.below Hb.out) | exact Tab.drew (hT.below Hb.out) | exact Tab.alloc (hT.below Hb.out) _ | exact Tab.drew (Tab.alloc (hT.below Hb.out) _) | exact Tab.alloc (Tab.drew (hT.below Hb.out)) _)).mono ?_
  rintro e w2 ⟨rfl, hq⟩
  have hbn : Below W1.heap.size W1 w2 := (by first | exact hq | exact bundrew hq); clear hq
  clear x0 x1 x2
  clear y0 y1 y2
  clear r0 fr0 r1 fr1 r2 fr2
  clear v0 v1 v2 v3 v4 v5
  replace Hx := Lib.hid (Hx.out.below hbn)
  replace Hy := Lib.hid (Hy.out.below hbn)
  replace Hr := Lib.hid (Hr.out.below hbn)
  replace Hv := Lib.hid (Hv.out.below hbn)
  have x0 : w2.cell? ⟨w.heap.size, 0, none⟩ = some (.bool s) := Hx.out.cell 0
  have x1 : w2.cell? ⟨w.heap.size, 1, none⟩ = some (.string (bs l)) := Hx.out.cell 1
  have x2 : w2.cell? ⟨w.heap.size, 2, none⟩ = some (.int .i64 e) := Hx.out.cell 2
  have y0 : w2.cell? ⟨w.heap.size + 1, 0, none⟩ = some (.bool t) := Hy.out.cell 0
  have y1 : w2.cell? ⟨w.heap.size + 1, 1, none⟩ = some (.string (bs m)) := Hy.out.cell 1
  have y2 : w2.cell? ⟨w.heap.size + 1, 2, none⟩ = some (.int .i64 f) := Hy.out.cell 2
  have r0 : w2.cell? ⟨w.heap.size + 1 + 1, 0, none⟩ = some (.bool false) := Hr.out.cell 0
  have fr0 : w2.frozen? ⟨w.heap.size + 1 + 1, 0, none⟩ = false := Hr.out.free 0
  have r1 : w2.cell? ⟨w.heap.size + 1 + 1, 1, none⟩ = some (.string (bs [])) := Hr.out.cell 1
  have fr1 : w2.frozen? ⟨w.heap.size + 1 + 1, 1, none⟩ = false := Hr.out.free 1
  have r2 : w2.cell? ⟨w.heap.size + 1 + 1, 2, none⟩ = some (.int .i64 0) := Hr.out.cell 2
  have fr2 : w2.frozen? ⟨w.heap.size + 1 + 1, 2, none⟩ = false := Hr.out.free 2
  have v0 : w2.cell? ⟨w1.heap.size, 0, none⟩ = some (.bool s) := Hv.out.cell 0
  have v1 : w2.cell? ⟨w1.heap.size, 1, none⟩ = some (.string (bs l)) := Hv.out.cell 1
  have v2 : w2.cell? ⟨w1.heap.size, 2, none⟩ = some (.int .i64 e) := Hv.out.cell 2
  have v3 : w2.cell? ⟨w1.heap.size, 3, none⟩ = some (.bool (sgnB (dN D))) := Hv.out.cell 3
  have v4 : w2.cell? ⟨w1.heap.size, 4, none⟩ = some (.string (bs (nt (dN D).natAbs))) := Hv.out.cell 4
  have v5 : w2.cell? ⟨w1.heap.size, 5, none⟩ = some (.int .i64 (dE D)) := Hv.out.cell 5
  replace Hb := Lib.hid (bnext Hb.out hbn); clear hbn
  refine hK _ _ (fun _ => ⟨x0, x1, x2, y0, y1, y2⟩) ?_; clear hK K
  try simp only [Act.put, List.setIfInBounds_toArray, List.set_cons_zero, List.set_cons_succ]
  refine planF rfl rfl (fun K hK => ?_)
  go_simp
  refine hK _ _ (fun h => absurd h (by decide)) ?_; clear hK K
  try simp only [Act.put, List.setIfInBounds_toArray, List.set_cons_zero, List.set_cons_succ]
  clear x0 x1 x2
  clear y0 y1 y2
  clear r0 fr0 r1 fr1 r2 fr2
  clear v0 v1 v2 v3 v4 v5
  refine plan_world (fun w3 => Blk w3 (w.heap.size) 36 [.bool s, .string (bs l), .int .i64 e] ∧ Blk w3 (w.heap.size + 1) 36 [.bool t, .string (bs m), .int .i64 f] ∧ Blk w3 (w.heap.size + 1 + 1) 36 [.bool (sgnB (dN S)), .string (bs (nt (dN S).natAbs)), .int .i64 (dE S)] ∧ Blk w3 (w1.heap.size) 36 [.bool s, .string (bs l), .int .i64 e, .bool (sgnB (dN D)), .string (bs (nt (dN D).natAbs)), .int .i64 (dE D)] ∧ Below w.heap.size w w3) (by first | exact ⟨(((Hx.out.set_other ⟨w.heap.size + 1 + 1, 0, none⟩ (by first | (dsimp only; omega) | (simp <;> omega)) _).set_other ⟨w.heap.size + 1 + 1, 1, none⟩ (by first | (dsimp only; omega) | (simp <;> omega)) _).set_other ⟨w.heap.size + 1 + 1, 2, none⟩ (by first | (dsimp only; omega) | (simp <;> omega)) _), (((Hy.out.set_other ⟨w.heap.size + 1 + 1, 0, none⟩ (by first | (dsimp only; omega) | (simp <;> omega)) _).set_other ⟨w.heap.size + 1 + 1, 1, none⟩ (by first | (dsimp only; omega) | (simp <;> omega)) _).set_other ⟨w.heap.size + 1 + 1, 2, none⟩ (by first | (dsimp only; omega) | (simp <;> omega)) _), (((Hr.out.set 0 _).set 1 _).set 2 _), (((Hv.out.set_other ⟨w.heap.size + 1 + 1, 0, none⟩ (by first | (dsimp only; omega) | (simp <;> omega)) _).set_other ⟨w.heap.size + 1 + 1, 1, none⟩ (by first | (dsimp only; omega) | (simp <;> omega)) _).set_other ⟨w.heap.size + 1 + 1, 2, none⟩ (by first | (dsimp only; omega) | (simp <;> omega)) _), (((Hb.out.setCell (p := ⟨w.heap.size + 1 + 1, 0, none⟩) (by have := Hb.out.size; first | (dsimp only; omega) | (simp <;> omega)) _).setCell (p := ⟨w.heap.size + 1 + 1, 1, none⟩) (by have := Hb.out.size; first | (dsimp only; omega) | (simp <;> omega)) _).setCell (p := ⟨w.heap.size + 1 + 1, 2, none⟩) (by have := Hb.out.size; first | (dsimp only; omega) | (simp <;> omega)) _)⟩ | exact ⟨(((Hx.out.set_other ⟨w.heap.size + 1 + 1, 0, none⟩ (by first | (dsimp only; omega) | (simp <;> omega)) _).set_other ⟨w.heap.size + 1 + 1, 1, none⟩ (by first | (dsimp only; omega) | (simp <;> omega)) _).set_other ⟨w.heap.size + 1 + 1, 2, none⟩ (by first | (dsimp only; omega) | (simp <;> omega)) _), (((Hy.out.set_other ⟨w.heap.size + 1 + 1, 0, none⟩ (by first | (dsimp only; omega) | (simp <;> omega)) _).set_other ⟨w.heap.size + 1 + 1, 1, none⟩ (by first | (dsimp only; omega) | (simp <;> omega)) _).set_other ⟨w.heap.size + 1 + 1, 2, none⟩ (by first | (dsimp only; omega) | (simp <;> omega)) _), (((Hr.out.set 0 _).set 1 _).set 2 _), (((Hv.out.set_other ⟨w.heap.size + 1 + 1, 0, none⟩ (by first | (dsimp only; omega) | (simp <;> omega)) _).set_other ⟨w.heap.size + 1 + 1, 1, none⟩ (by first | (dsimp only; omega) | (simp <;> omega)) _).set_other ⟨w.heap.size + 1 + 1, 2, none⟩ (by first | (dsimp only; omega) | (simp <;> omega)) _), Below.drew (((Hb.out.setCell (p := ⟨w.heap.size + 1 + 1, 0, none⟩) (by have := Hb.out.size; first | (dsimp only; omega) | (simp <;> omega)) _).setCell (p := ⟨w.heap.size + 1 + 1, 1, none⟩) (by have := Hb.out.size; first | (dsimp only; omega) | (simp <;> omega)) _).setCell (p := ⟨w.heap.size + 1 + 1, 2, none⟩) (by have := Hb.out.size; first | (dsimp only; omega) | (simp <;> omega)) _)⟩) ?_
  rintro w3 ⟨qx, qy, qr, qv, hbn⟩
  replace Hx := Lib.hid qx; clear qx
  replace Hy := Lib.hid qy; clear qy
  replace Hr := Lib.hid qr; clear qr
  replace Hv := Lib.hid qv; clear qv
  have x0 : w3.cell? ⟨w.heap.size, 0, none⟩ = some (.bool s) := Hx.out.cell 0
  have x1 : w3.cell? ⟨w.heap.size, 1, none⟩ = some (.string (bs l)) := Hx.out.cell 1
  have x2 : w3.cell? ⟨w.heap.size, 2, none⟩ = some (.int .i64 e) := Hx.out.cell 2
  have y0 : w3.cell? ⟨w.heap.size + 1, 0, none⟩ = some (.bool t) := Hy.out.cell 0
  have y1 : w3.cell? ⟨w.heap.size + 1, 1, none⟩ = some (.string (bs m)) := Hy.out.cell 1
  have y2 : w3.cell? ⟨w.heap.size + 1, 2, none⟩ = some (.int .i64 f) := Hy.out.cell 2
  have r0 : w3.cell? ⟨w.heap.size + 1 + 1, 0, none⟩ = some (.bool (sgnB (dN S))) := Hr.out.cell 0
  have fr0 : w3.frozen? ⟨w.heap.size + 1 + 1, 0, none⟩ = false := Hr.out.free 0
  have r1 : w3.cell? ⟨w.heap.size + 1 + 1, 1, none⟩ = some (.string (bs (nt (dN S).natAbs))) := Hr.out.cell 1
  have fr1 : w3.frozen? ⟨w.heap.size + 1 + 1, 1, none⟩ = false := Hr.out.free 1
  have r2 : w3.cell? ⟨w.heap.size + 1 + 1, 2, none⟩ = some (.int .i64 (dE S)) := Hr.out.cell 2
  have fr2 : w3.frozen? ⟨w.heap.size + 1 + 1, 2, none⟩ = false := Hr.out.free 2
  have v0 : w3.cell? ⟨w1.heap.size, 0, none⟩ = some (.bool s) := Hv.out.cell 0
  have v1 : w3.cell? ⟨w1.heap.size, 1, none⟩ = some (.string (bs l)) := Hv.out.cell 1
  have v2 : w3.cell? ⟨w1.heap.size, 2, none⟩ = some (.int .i64 e) := Hv.out.cell 2
  have v3 : w3.cell? ⟨w1.heap.size, 3, none⟩ = some (.bool (sgnB (dN D))) := Hv.out.cell 3
  have v4 : w3.cell? ⟨w1.heap.size, 4, none⟩ = some (.string (bs (nt (dN D).natAbs))) := Hv.out.cell 4
  have v5 : w3.cell? ⟨w1.heap.size, 5, none⟩ = some (.int .i64 (dE D)) := Hv.out.cell 5
  replace Hb := Lib.hid hbn; clear hbn
  simp only [wpPlan]
  go_wp2
  refine bodyPost_ret (v := numV S) (by simp [results, Tryz.results79, go_sem, r0, r1, r2]) rfl ⟨rfl, ?_⟩
  (repeat first | exact Hb.out | (refine Below.setCell ?_ (by have := Hb.out.size; first | (dsimp only; omega) | (show _ ≤ _; omega) | (simp <;> omega)) _) | (refine Below.alloc ?_ (by have := Hb.out.size; simp <;> omega) _) | refine Below.drew ?_)

theorem dsg_owp (n k : Int) : dsg (Dyadic.ofIntWithPrec n k) = sgnI n := by
  have h := sgnI_dN (sgnB n) (nt n.natAbs) (-k)
  rw [dval_int, iv_int, Int.neg_neg] at h
  exact h.symm

set_option maxHeartbeats 2000000 in
theorem dCmp_any (s : Bool) (l : List UInt8) (e : Int) (t : Bool) (m : List UInt8) (f : Int) (c : Int) (hc : dsg (dval (s, l, e) - dval (t, m, f)) = c) (w : World) (hx : Ok (s, l, e)) (hy : Ok (t, m, f)) (hT : Tab w) :
    Calls Tryz.prog 60 #[.agg #[.bool s, .string (bs l), .int .i64 e], .agg #[.bool t, .string (bs m), .int .i64 f]] w fun e w' => e = .returned (.int .i64 c) ∧ Below w.heap.size w w' := by
  obtain ⟨g, X, Y, hg, hX, hY, eA, eB, lX, lY, hg1, hg2⟩ := lv_facts hx hy _ _ rfl rfl
  have hcX : sgnI (X - Y) = c := by
    rw [← hc, eA, eB, show ∀ a b : Dyadic, a - b = a + -b from fun a b => by grind, owp_neg, owp_add, dsg_owp]; rfl
  obtain ⟨u, hu⟩ : ∃ u, dsg (dval (s, l, e)) = u := ⟨_, rfl⟩
  obtain ⟨v, hv⟩ : ∃ v, dsg (dval (t, m, f)) = v := ⟨_, rfl⟩
  have hu2 : sgnI X = u := by rw [← hu, eA, dsg_owp]
  have hv2 : sgnI Y = v := by rw [← hv, eB, dsg_owp]
  have ru : -1 ≤ u ∧ u ≤ 1 := by rw [← hu2]; unfold sgnI; split <;> (try split) <;> omega
  have rv : -1 ≤ v ∧ v ≤ 1 := by rw [← hv2]; unfold sgnI; split <;> (try split) <;> omega
  have Hlv : Hid (∀ W, Tab W → Calls Tryz.prog 49 #[.agg #[.bool s, .string (bs l), .int .i64 e], .agg #[.bool t, .string (bs m), .int .i64 f]] W fun ex w' => ex = .returned (.agg #[.int .i64 g, .bool (sgnB X), .string (bs (nt X.natAbs)), .bool (sgnB Y), .string (bs (nt Y.natAbs))]) ∧ Below W.heap.size W w') := fun W hW =>
        level_any s l e t m f _ _ rfl rfl g X Y hg hX hY W hx hy hW
  have Hcm : Hid (∀ W, Calls Tryz.prog 80 #[intV X, intV Y] W fun ex w' => ex = .returned (.int .i64 c) ∧ Below W.heap.size W w') := fun W => by
    have := wCmp_any (sgnB X) (nt X.natAbs) (sgnB Y) (nt Y.natAbs) W (by omega) (by omega) (by
      rw [iv_int, iv_int, Int.sub_eq_add_neg]; exact Nat.le_trans (add_len X (-Y) 17179869183 lX (by rw [Int.natAbs_neg]; exact lY)) (by decide))
    rw [iv_int, iv_int, hcX] at this
    exact this
  have hcl : ¬ u = v → max (-1) (min 1 (u - v)) = c := by
    intro hne
    rw [← hcX]; rw [← hu2, ← hv2] at hne ⊢
    unfold sgnI at *
    split <;> split <;> (try split) <;> (try split) <;> (try split) <;> omega
  have hwr : IntKind.i64.wrap (u - v) = u - v := by rw [IntKind.wrap_i64]; omega
  have Hu := Lib.hid hu; have Hv := Lib.hid hv; have Hx0 := Lib.hid hx; have Hy0 := Lib.hid hy
  clear hu hv hu2 hv2 hx hy hcX hc eA eB hX hY hg
  go_enter Tryz.func60, Tryz.ntmps60
  have Hb : Hid (Below w.heap.size w w) := Below.refl _ _
  go_wp2_with fail
  first | refine wp_world (fun W => Blk W (w.heap.size) 36 [.bool s, .string (bs l), .int .i64 e] ∧ Blk W (w.heap.size + 1) 36 [.bool t, .string (bs m), .int .i64 f] ∧ Below w.heap.size w W) ?hR ?_ | refine calls_world (fun W => Blk W (w.heap.size) 36 [.bool s, .string (bs l), .int .i64 e] ∧ Blk W (w.heap.size + 1) 36 [.bool t, .string (bs m), .int .i64 f] ∧ Below w.heap.size w W) ?hR ?_
  case hR => exact ⟨((Blk.newAt w _ _ (b := w.heap.size) rfl).alloc _), (Blk.newAt (w.alloc _) _ _ (b := w.heap.size + 1) (by simp)), (((Below.refl _ _).alloc (Nat.le_refl _) _).alloc (by simp <;> omega) _)⟩
  rintro W ⟨qx, qy, hbn⟩
  have Hx := Lib.hid qx; clear qx
  have Hy := Lib.hid qy; clear qy
  have x0 : W.cell? ⟨w.heap.size, 0, none⟩ = some (.bool s) := Hx.out.cell 0
  have x1 : W.cell? ⟨w.heap.size, 1, none⟩ = some (.string (bs l)) := Hx.out.cell 1
  have x2 : W.cell? ⟨w.heap.size, 2, none⟩ = some (.int .i64 e) := Hx.out.cell 2
  have y0 : W.cell? ⟨w.heap.size + 1, 0, none⟩ = some (.bool t) := Hy.out.cell 0
  have y1 : W.cell? ⟨w.heap.size + 1, 1, none⟩ = some (.string (bs m)) := Hy.out.cell 1
  have y2 : W.cell? ⟨w.heap.size + 1, 2, none⟩ = some (.int .i64 f) := Hy.out.cell 2
  replace Hb := Lib.hid (bnext Hb.out hbn); clear hbn
  refine wp_region_plan (fun w' => w'.cell? ⟨w.heap.size, 0, none⟩ = some (.bool s) ∧ w'.cell? ⟨w.heap.size, 1, none⟩ = some (.string (bs l)) ∧ w'.cell? ⟨w.heap.size, 2, none⟩ = some (.int .i64 e) ∧ w'.cell? ⟨w.heap.size + 1, 0, none⟩ = some (.bool t) ∧ w'.cell? ⟨w.heap.size + 1, 1, none⟩ = some (.string (bs m)) ∧ w'.cell? ⟨w.heap.size + 1, 2, none⟩ = some (.int .i64 f)) (fun i => Nat.blt i 100000) [(0, true), (2, true), (1, false), (3, false), (4, true), (5, true)] (by kernel_rfl) (by kernel_rfl) rfl (by kernel_rfl) (fun o c a v w => by cases o.dst <;> exact id) ⟨x0, x1, x2, y0, y1, y2⟩ ?_
  refine planT rfl rfl (v := ?_) (fun w' hw' => ?_) ?_; rotate_left; focus (obtain ⟨q0, q1, q2, q3, q4, q5⟩ := hw'; go_simp; try with_reducible rfl)
  try simp only [Act.put, List.setIfInBounds_toArray, List.set_cons_zero, List.set_cons_succ]
  refine planT rfl rfl (v := ?_) (fun w' hw' => ?_) ?_; rotate_left; focus (obtain ⟨q0, q1, q2, q3, q4, q5⟩ := hw'; go_simp; try with_reducible rfl)
  try simp only [Act.put, List.setIfInBounds_toArray, List.set_cons_zero, List.set_cons_succ]
  refine planF rfl rfl (fun K hK => ?_)
  go_simp
  with_reducible refine (dsign_any s l e u Hu.out _ Hx0.out).mono ?_
  rintro e w1 ⟨rfl, hq⟩
  have hbn : Below W.heap.size W w1 := (by first | exact hq | exact bundrew hq); clear hq
  clear x0 x1 x2
  clear y0 y1 y2
  replace Hx := Lib.hid (Hx.out.below hbn)
  replace Hy := Lib.hid (Hy.out.below hbn)
  have x0 : w1.cell? ⟨w.heap.size, 0, none⟩ = some (.bool s) := Hx.out.cell 0
  have x1 : w1.cell? ⟨w.heap.size, 1, none⟩ = some (.string (bs l)) := Hx.out.cell 1
  have x2 : w1.cell? ⟨w.heap.size, 2, none⟩ = some (.int .i64 e) := Hx.out.cell 2
  have y0 : w1.cell? ⟨w.heap.size + 1, 0, none⟩ = some (.bool t) := Hy.out.cell 0
  have y1 : w1.cell? ⟨w.heap.size + 1, 1, none⟩ = some (.string (bs m)) := Hy.out.cell 1
  have y2 : w1.cell? ⟨w.heap.size + 1, 2, none⟩ = some (.int .i64 f) := Hy.out.cell 2
  replace Hb := Lib.hid (bnext Hb.out hbn); clear hbn
  refine hK _ _ (fun _ => ⟨x0, x1, x2, y0, y1, y2⟩) ?_; clear hK K
  try simp only [Act.put, List.setIfInBounds_toArray, List.set_cons_zero, List.set_cons_succ]
  refine planF rfl rfl (fun K hK => ?_)
  go_simp
  with_reducible refine (dsign_any t m f v Hv.out _ Hy0.out).mono ?_
  rintro e w2 ⟨rfl, hq⟩
  have hbn : Below w1.heap.size w1 w2 := (by first | exact hq | exact bundrew hq); clear hq
  clear x0 x1 x2
  clear y0 y1 y2
  replace Hx := Lib.hid (Hx.out.below hbn)
  replace Hy := Lib.hid (Hy.out.below hbn)
  have x0 : w2.cell? ⟨w.heap.size, 0, none⟩ = some (.bool s) := Hx.out.cell 0
  have x1 : w2.cell? ⟨w.heap.size, 1, none⟩ = some (.string (bs l)) := Hx.out.cell 1
  have x2 : w2.cell? ⟨w.heap.size, 2, none⟩ = some (.int .i64 e) := Hx.out.cell 2
  have y0 : w2.cell? ⟨w.heap.size + 1, 0, none⟩ = some (.bool t) := Hy.out.cell 0
  have y1 : w2.cell? ⟨w.heap.size + 1, 1, none⟩ = some (.string (bs m)) := Hy.out.cell 1
  have y2 : w2.cell? ⟨w.heap.size + 1, 2, none⟩ = some (.int .i64 f) := Hy.out.cell 2
  replace Hb := Lib.hid (bnext Hb.out hbn); clear hbn
  refine hK _ _ (fun _ => ⟨x0, x1, x2, y0, y1, y2⟩) ?_; clear hK K
  try simp only [Act.put, List.setIfInBounds_toArray, List.set_cons_zero, List.set_cons_succ]
  refine planT rfl rfl (v := ?_) (fun w' hw' => ?_) ?_; rotate_left; focus (go_simp; try with_reducible rfl)
  try simp only [Act.put, List.setIfInBounds_toArray, List.set_cons_zero, List.set_cons_succ]
  refine planT rfl rfl (v := ?_) (fun w' hw' => ?_) ?_; rotate_left; focus (go_simp; try with_reducible rfl)
  try simp only [Act.put, List.setIfInBounds_toArray, List.set_cons_zero, List.set_cons_succ]
  simp only [wpPlan]
  by_cases huv : u = v
  · subst huv
    clear hcl
    go_wp2_with fail
    have HT := Lib.hid (hT.below Hb.out)
    go_wp2_with fail
    refine (Hlv.out _ HT.out).mono ?_
    rintro e w3 ⟨rfl, hbn⟩
    clear x0 x1 x2
    clear y0 y1 y2
    replace Hx := Lib.hid (Hx.out.below hbn)
    replace Hy := Lib.hid (Hy.out.below hbn)
    have x0 : w3.cell? ⟨w.heap.size, 0, none⟩ = some (.bool s) := Hx.out.cell 0
    have x1 : w3.cell? ⟨w.heap.size, 1, none⟩ = some (.string (bs l)) := Hx.out.cell 1
    have x2 : w3.cell? ⟨w.heap.size, 2, none⟩ = some (.int .i64 e) := Hx.out.cell 2
    have y0 : w3.cell? ⟨w.heap.size + 1, 0, none⟩ = some (.bool t) := Hy.out.cell 0
    have y1 : w3.cell? ⟨w.heap.size + 1, 1, none⟩ = some (.string (bs m)) := Hy.out.cell 1
    have y2 : w3.cell? ⟨w.heap.size + 1, 2, none⟩ = some (.int .i64 f) := Hy.out.cell 2
    replace Hb := Lib.hid (bnext Hb.out hbn); clear hbn
    have lz_x_W4 : w.heap.size < w3.heap.size := Hx.out.lt
    have lz_y_W4 : w.heap.size + 1 < w3.heap.size := Hy.out.lt
    go_wp2_with fail
    first | refine wp_world (fun W4 => Blk W4 (w3.heap.size) 99 [.int .i64 g, .bool (sgnB X), .string (bs (nt X.natAbs)), .bool (sgnB Y), .string (bs (nt Y.natAbs))] ∧ Below w3.heap.size w3 W4) ?hR ?_ | refine calls_world (fun W4 => Blk W4 (w3.heap.size) 99 [.int .i64 g, .bool (sgnB X), .string (bs (nt X.natAbs)), .bool (sgnB Y), .string (bs (nt Y.natAbs))] ∧ Below w3.heap.size w3 W4) ?hR ?_
    case hR => exact ⟨(Blk.newAt w3 _ _ (b := w3.heap.size) rfl), ((Below.refl _ _).alloc (Nat.le_refl _) _)⟩
    rintro W4 ⟨qp, hbn⟩
    have Hp := Lib.hid qp; clear qp
    clear x0 x1 x2
    replace Hx := Lib.hid (Hx.out.below hbn)
    have x0 : W4.cell? ⟨w.heap.size, 0, none⟩ = some (.bool s) := Hx.out.cell 0
    have x1 : W4.cell? ⟨w.heap.size, 1, none⟩ = some (.string (bs l)) := Hx.out.cell 1
    have x2 : W4.cell? ⟨w.heap.size, 2, none⟩ = some (.int .i64 e) := Hx.out.cell 2
    clear y0 y1 y2
    replace Hy := Lib.hid (Hy.out.below hbn)
    have y0 : W4.cell? ⟨w.heap.size + 1, 0, none⟩ = some (.bool t) := Hy.out.cell 0
    have y1 : W4.cell? ⟨w.heap.size + 1, 1, none⟩ = some (.string (bs m)) := Hy.out.cell 1
    have y2 : W4.cell? ⟨w.heap.size + 1, 2, none⟩ = some (.int .i64 f) := Hy.out.cell 2
    have p0 : W4.cell? ⟨w3.heap.size, 0, none⟩ = some (.int .i64 g) := Hp.out.cell 0
    have p1 : W4.cell? ⟨w3.heap.size, 1, none⟩ = some (.bool (sgnB X)) := Hp.out.cell 1
    have p2 : W4.cell? ⟨w3.heap.size, 2, none⟩ = some (.string (bs (nt X.natAbs))) := Hp.out.cell 2
    have p3 : W4.cell? ⟨w3.heap.size, 3, none⟩ = some (.bool (sgnB Y)) := Hp.out.cell 3
    have p4 : W4.cell? ⟨w3.heap.size, 4, none⟩ = some (.string (bs (nt Y.natAbs))) := Hp.out.cell 4
    replace Hb := Lib.hid (bnext Hb.out hbn); clear hbn
    go_wp2_with fail
    refine (Hcm.out _).mono ?_
    rintro e w5 ⟨rfl, hbn⟩
    clear x0 x1 x2
    clear y0 y1 y2
    clear p0 p1 p2 p3 p4
    replace Hx := Lib.hid (Hx.out.below hbn)
    replace Hy := Lib.hid (Hy.out.below hbn)
    replace Hp := Lib.hid (Hp.out.below hbn)
    have x0 : w5.cell? ⟨w.heap.size, 0, none⟩ = some (.bool s) := Hx.out.cell 0
    have x1 : w5.cell? ⟨w.heap.size, 1, none⟩ = some (.string (bs l)) := Hx.out.cell 1
    have x2 : w5.cell? ⟨w.heap.size, 2, none⟩ = some (.int .i64 e) := Hx.out.cell 2
    have y0 : w5.cell? ⟨w.heap.size + 1, 0, none⟩ = some (.bool t) := Hy.out.cell 0
    have y1 : w5.cell? ⟨w.heap.size + 1, 1, none⟩ = some (.string (bs m)) := Hy.out.cell 1
    have y2 : w5.cell? ⟨w.heap.size + 1, 2, none⟩ = some (.int .i64 f) := Hy.out.cell 2
    have p0 : w5.cell? ⟨w3.heap.size, 0, none⟩ = some (.int .i64 g) := Hp.out.cell 0
    have p1 : w5.cell? ⟨w3.heap.size, 1, none⟩ = some (.bool (sgnB X)) := Hp.out.cell 1
    have p2 : w5.cell? ⟨w3.heap.size, 2, none⟩ = some (.string (bs (nt X.natAbs))) := Hp.out.cell 2
    have p3 : w5.cell? ⟨w3.heap.size, 3, none⟩ = some (.bool (sgnB Y)) := Hp.out.cell 3
    have p4 : w5.cell? ⟨w3.heap.size, 4, none⟩ = some (.string (bs (nt Y.natAbs))) := Hp.out.cell 4
    replace Hb := Lib.hid (bnext Hb.out hbn); clear hbn
    go_wp2
    go_ret
    exact ⟨rfl, Hb.out⟩
  · have hcl := hcl huv
    have huv2 : (u != v) = true := by simp [huv]
    go_wp2
    go_ret
    exact ⟨rfl, Hb.out⟩

end Go.Proofs.YtidjljldhdckiaaGreatDoor
