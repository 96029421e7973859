/- The statement's examples: ogeelaw17.num, of. -/
import Derived.Test.YtidjljldhdckiaaGreatDoorKRef5
namespace Go.Proofs.YtidjljldhdckiaaGreatDoor
open Go.RowKit
attribute [local go_sem ↓] Go.wp_at_zero Go.wp_at_succ

/-- A whole number. -/
def dI (n : Nat) : Dyadic := Dyadic.ofIntWithPrec (n : Int) 0

set_option maxHeartbeats 1000000 in
theorem num_any (n : Nat) (w : World) (hn : n ≤ 1000000) :
    Calls Tryz.prog 18 #[.int .i64 (n : Int)] w fun e w' => e = .returned (numV (dI n)) ∧ Below w.heap.size w w' := by
  have h1 := fun W => rof2_nat n W (by omega)
  have h2 := fun W => rmake_any false (nt n) 0 (dI n) (by unfold dval dI; simp only [iv_num]; rfl) W (Nat.le_trans (nt_length_le (k := 4) (by omega)) (by decide)) (by omega)
  generalize dI n = D at *
  generalize nt n = m at *
  have H1 := Lib.hid h1; have H2 := Lib.hid h2; clear h1 h2
  obtain ⟨W, hW_W⟩ : ∃ W, (w.alloc (.cells #[.bool false, .string ⟨#[]⟩, .int .i64 0] 36)) = W := ⟨_, rfl⟩
  have Hb : Hid (Below w.heap.size w W) := by rw [← hW_W]; exact ((Below.refl _ _).alloc (Nat.le_refl _) _)
  have Hr : Hid (Blk W (w.heap.size) 36 [.bool false, .string ⟨#[]⟩, .int .i64 0]) := by rw [← hW_W]; exact Blk.newAt _ _ _ (by simp)
  have r0 : W.cell? ⟨w.heap.size, 0, none⟩ = some (.bool false) := Hr.out.cell 0
  have fr0 : W.frozen? ⟨w.heap.size, 0, none⟩ = false := Hr.out.free 0
  have r1 : W.cell? ⟨w.heap.size, 1, none⟩ = some (.string ⟨#[]⟩) := Hr.out.cell 1
  have fr1 : W.frozen? ⟨w.heap.size, 1, none⟩ = false := Hr.out.free 1
  have r2 : W.cell? ⟨w.heap.size, 2, none⟩ = some (.int .i64 0) := Hr.out.cell 2
  have fr2 : W.frozen? ⟨w.heap.size, 2, none⟩ = false := Hr.out.free 2
  go_enter Tryz.func18, Tryz.ntmps18
  go_wp2_with fail
  refine (H1.out _).mono ?_
  rintro e w1 ⟨rfl, hbn⟩
  clear r0 fr0 r1 fr1 r2 fr2
  replace Hr := Lib.hid (Hr.out.below hbn)
  have r0 : w1.cell? ⟨w.heap.size, 0, none⟩ = some (.bool false) := Hr.out.cell 0
  have fr0 : w1.frozen? ⟨w.heap.size, 0, none⟩ = false := Hr.out.free 0
  have r1 : w1.cell? ⟨w.heap.size, 1, none⟩ = some (.string ⟨#[]⟩) := Hr.out.cell 1
  have fr1 : w1.frozen? ⟨w.heap.size, 1, none⟩ = false := Hr.out.free 1
  have r2 : w1.cell? ⟨w.heap.size, 2, none⟩ = some (.int .i64 0) := Hr.out.cell 2
  have fr2 : w1.frozen? ⟨w.heap.size, 2, none⟩ = false := Hr.out.free 2
  replace Hb := Lib.hid (bnext Hb.out hbn); clear hbn
  go_wp2_with fail
  refine (H2.out _).mono ?_
  rintro e w2 ⟨rfl, hbn⟩
  clear r0 fr0 r1 fr1 r2 fr2
  replace Hr := Lib.hid (Hr.out.below hbn)
  have r0 : w2.cell? ⟨w.heap.size, 0, none⟩ = some (.bool false) := Hr.out.cell 0
  have fr0 : w2.frozen? ⟨w.heap.size, 0, none⟩ = false := Hr.out.free 0
  have r1 : w2.cell? ⟨w.heap.size, 1, none⟩ = some (.string ⟨#[]⟩) := Hr.out.cell 1
  have fr1 : w2.frozen? ⟨w.heap.size, 1, none⟩ = false := Hr.out.free 1
  have r2 : w2.cell? ⟨w.heap.size, 2, none⟩ = some (.int .i64 0) := Hr.out.cell 2
  have fr2 : w2.frozen? ⟨w.heap.size, 2, none⟩ = false := Hr.out.free 2
  replace Hb := Lib.hid (bnext Hb.out hbn); clear hbn
  go_wp2
  clear r0 fr0 r1 fr1 r2 fr2
  refine body_world (fun w9 => Blk w9 (w.heap.size) 36 [.bool (sgnB (dN D)), .string (bs (nt (dN D).natAbs)), .int .i64 (dE D)] ∧ Below w.heap.size w w9) ⟨(((Hr.out.set 0 _).set 1 _).set 2 _), (((Hb.out.setCell (p := ⟨w.heap.size, 0, none⟩) (by have := Hb.out.size; first | (dsimp only; omega) | (show _ ≤ _; omega) | (simp <;> omega)) _).setCell (p := ⟨w.heap.size, 1, none⟩) (by have := Hb.out.size; first | (dsimp only; omega) | (show _ ≤ _; omega) | (simp <;> omega)) _).setCell (p := ⟨w.heap.size, 2, none⟩) (by have := Hb.out.size; first | (dsimp only; omega) | (show _ ≤ _; omega) | (simp <;> omega)) _)⟩ ?_
  rintro w9 ⟨qr, hbn⟩
  replace Hr := Lib.hid qr; clear qr
  have r0 : w9.cell? ⟨w.heap.size, 0, none⟩ = some (.bool (sgnB (dN D))) := Hr.out.cell 0
  have fr0 : w9.frozen? ⟨w.heap.size, 0, none⟩ = false := Hr.out.free 0
  have r1 : w9.cell? ⟨w.heap.size, 1, none⟩ = some (.string (bs (nt (dN D).natAbs))) := Hr.out.cell 1
  have fr1 : w9.frozen? ⟨w.heap.size, 1, none⟩ = false := Hr.out.free 1
  have r2 : w9.cell? ⟨w.heap.size, 2, none⟩ = some (.int .i64 (dE D)) := Hr.out.cell 2
  have fr2 : w9.frozen? ⟨w.heap.size, 2, none⟩ = false := Hr.out.free 2
  replace Hb := Lib.hid hbn; clear hbn
  refine bodyPost_ret (v := numV D) (by simp [results, Tryz.results18, go_sem, r0, r1, r2]) rfl ⟨rfl, Hb.out⟩

set_option maxHeartbeats 4000000 in
set_option maxRecDepth 100000 in
theorem of_law (V D : Int) (a : Option Addr) (ns : List Nat) (N cap : Nat) (w : World) (hN : ns.length = N) (hl : N ≤ 1000) (hn : ∀ n ∈ ns, n ≤ 1000000) (ha : At w a (ns.map fun (n : Nat) => Value.int .i64 (n : Int))) :
    Calls Tryz.prog 16 #[.int .i64 V, .int .i64 D, .slice a N cap] w fun e w' => ∃ a2 cap2, e = .returned (.agg #[.int .i64 V, .int .i64 D, .slice a2 N cap2]) ∧ At w' a2 (dC (ns.map dI)) ∧ Below w.heap.size w w' := by
  obtain ⟨i0, hi, hz0, hz1, hz2⟩ := info_parts Tryz.infoN
  have HN := Lib.hid hN; have HA := Lib.hid ha; have Hn := Lib.hid hn
  have Hi := Lib.hid hi; have Hz0 := Lib.hid hz0; have Hz1 := Lib.hid hz1; have Hz2 := Lib.hid hz2
  obtain ⟨Z, hZ⟩ : ∃ Z, ns.map dI = Z := ⟨_, rfl⟩
  have HZ := Lib.hid hZ
  rw [hZ]
  clear hN ha hn hi hz0 hz1 hz2 hZ
  obtain ⟨W, hW_W⟩ : ∃ W, ((w.alloc (.cells #[.int .i64 0, .int .i64 0, .slice none 0 0] 24)).alloc (.cells #[.int .i64 V, .int .i64 D, .slice none 0 0] 24)) = W := ⟨_, rfl⟩
  have Hb : Hid (Below w.heap.size w W) := by rw [← hW_W]; exact (((Below.refl _ _).alloc (Nat.le_refl _) _).alloc (by simp <;> omega) _)
  have Hr : Hid (Blk W (w.heap.size) 24 [.int .i64 0, .int .i64 0, .slice none 0 0]) := by rw [← hW_W]; exact (Blk.newAt _ _ _ (by simp)).alloc _
  have Ho : Hid (Blk W (w.heap.size + 1) 24 [.int .i64 V, .int .i64 D, .slice none 0 0]) := by rw [← hW_W]; exact Blk.newAt _ _ _ (by simp)
  have r0 : W.cell? ⟨w.heap.size, 0, none⟩ = some (.int .i64 0) := Hr.out.cell 0
  have fr0 : W.frozen? ⟨w.heap.size, 0, none⟩ = false := Hr.out.free 0
  have r1 : W.cell? ⟨w.heap.size, 1, none⟩ = some (.int .i64 0) := Hr.out.cell 1
  have fr1 : W.frozen? ⟨w.heap.size, 1, none⟩ = false := Hr.out.free 1
  have r2 : W.cell? ⟨w.heap.size, 2, none⟩ = some (.slice none 0 0) := Hr.out.cell 2
  have fr2 : W.frozen? ⟨w.heap.size, 2, none⟩ = false := Hr.out.free 2
  have o0 : W.cell? ⟨w.heap.size + 1, 0, none⟩ = some (.int .i64 V) := Ho.out.cell 0
  have fo0 : W.frozen? ⟨w.heap.size + 1, 0, none⟩ = false := Ho.out.free 0
  have o1 : W.cell? ⟨w.heap.size + 1, 1, none⟩ = some (.int .i64 D) := Ho.out.cell 1
  have fo1 : W.frozen? ⟨w.heap.size + 1, 1, none⟩ = false := Ho.out.free 1
  have o2 : W.cell? ⟨w.heap.size + 1, 2, none⟩ = some (.slice none 0 0) := Ho.out.cell 2
  have fo2 : W.frozen? ⟨w.heap.size + 1, 2, none⟩ = false := Ho.out.free 2
  go_enter Tryz.func16, Tryz.ntmps16
  go_wp2_with fail
  clear r0 fr0 r1 fr1 r2 fr2
  clear o0 fo0 o1 fo1 o2 fo2
  first | refine wp_world (fun w1 => Blk w1 (w.heap.size) 24 [.int .i64 0, .int .i64 0, .slice none 0 0] ∧ Blk w1 (w.heap.size + 1) 24 [.int .i64 V, .int .i64 D, .slice none 0 0] ∧ Below w.heap.size w w1) ⟨(Hr.out.set_other ⟨w.heap.size + 1, 2, none⟩ (by first | (dsimp only; omega) | (show _ ≠ _; omega) | (simp <;> omega)) _), (Ho.out.set 2 _), (Hb.out.setCell (p := ⟨w.heap.size + 1, 2, none⟩) (by have := Hb.out.size; first | (dsimp only; omega) | (show _ ≤ _; omega) | (simp <;> omega)) _)⟩ ?_ | refine calls_world (fun w1 => Blk w1 (w.heap.size) 24 [.int .i64 0, .int .i64 0, .slice none 0 0] ∧ Blk w1 (w.heap.size + 1) 24 [.int .i64 V, .int .i64 D, .slice none 0 0] ∧ Below w.heap.size w w1) ⟨(Hr.out.set_other ⟨w.heap.size + 1, 2, none⟩ (by first | (dsimp only; omega) | (show _ ≠ _; omega) | (simp <;> omega)) _), (Ho.out.set 2 _), (Hb.out.setCell (p := ⟨w.heap.size + 1, 2, none⟩) (by have := Hb.out.size; first | (dsimp only; omega) | (show _ ≤ _; omega) | (simp <;> omega)) _)⟩ ?_
  rintro w1 ⟨qr, qo, hbn⟩
  replace Hr := Lib.hid qr; clear qr
  replace Ho := Lib.hid qo; clear qo
  have r0 : w1.cell? ⟨w.heap.size, 0, none⟩ = some (.int .i64 0) := Hr.out.cell 0
  have fr0 : w1.frozen? ⟨w.heap.size, 0, none⟩ = false := Hr.out.free 0
  have r1 : w1.cell? ⟨w.heap.size, 1, none⟩ = some (.int .i64 0) := Hr.out.cell 1
  have fr1 : w1.frozen? ⟨w.heap.size, 1, none⟩ = false := Hr.out.free 1
  have r2 : w1.cell? ⟨w.heap.size, 2, none⟩ = some (.slice none 0 0) := Hr.out.cell 2
  have fr2 : w1.frozen? ⟨w.heap.size, 2, none⟩ = false := Hr.out.free 2
  have o0 : w1.cell? ⟨w.heap.size + 1, 0, none⟩ = some (.int .i64 V) := Ho.out.cell 0
  have fo0 : w1.frozen? ⟨w.heap.size + 1, 0, none⟩ = false := Ho.out.free 0
  have o1 : w1.cell? ⟨w.heap.size + 1, 1, none⟩ = some (.int .i64 D) := Ho.out.cell 1
  have fo1 : w1.frozen? ⟨w.heap.size + 1, 1, none⟩ = false := Ho.out.free 1
  have o2 : w1.cell? ⟨w.heap.size + 1, 2, none⟩ = some (.slice none 0 0) := Ho.out.cell 2
  have fo2 : w1.frozen? ⟨w.heap.size + 1, 2, none⟩ = false := Ho.out.free 2
  replace Hb := Lib.hid hbn; clear hbn
  have lr := Hr.out.lt; have lo := Ho.out.lt
  go_loopw [8] (fun i wr => ∃ k : Nat, k ≤ N ∧ i = .int .i64 (k : Int) ∧ ∃ v, wr.ownsRow w.heap.size 36 3 v k (dC (Z.take k)) ∧ Blk wr w.heap.size 24 [.int .i64 0, .int .i64 0, .slice none 0 0] ∧ Blk wr (w.heap.size + 1) 24 [.int .i64 V, .int .i64 D, v] ∧ Below w.heap.size w wr) (fun i _ => N - (intOf i).toNat)
  case atStart => exact ⟨0, Nat.zero_le _, rfl, _, World.ownsRow_nil _ _ _ _, Hr.out, Ho.out, Hb.out⟩
  case round =>
    clear r0 r1 r2 fr0 fr1 fr2 o0 o1 o2 fo0 fo1 fo2
    obtain ⟨k, hk, rfl, v, pv, pR, pO, pb⟩ := hrel
    by_cases hlt : k < N
    · have h1 : k < ns.length := by rw [HN.out]; exact hlt
      obtain ⟨n, hx⟩ : ∃ n, ns[k] = n := ⟨_, rfl⟩
      have hnn : n ≤ 1000000 := by rw [← hx]; exact Hn.out _ (List.getElem_mem h1)
      obtain ⟨X, hX⟩ : ∃ X, dI n = X := ⟨_, rfl⟩
      have hnum := fun W => num_any n W hnn
      rw [hX] at hnum
      have Hnum := Lib.hid hnum
      have Hst : Hid (dC (Z.take (k + 1)) = dC (Z.take k) ++ [.bool (sgnB (dN X)), .string (bs (nt (dN X).natAbs)), .int .i64 (dE X)]) := by
        show _ = _
        rw [← HZ.out, List.take_succ_eq_append_getElem (by simpa using h1), dC_append]
        congr 1
        simp only [List.getElem_map, hx, hX]
        rfl
      have hat : At w a (ns.flatMap fun (n : Nat) => [Value.int .i64 (n : Int)]) := by rw [flat_one]; exact HA.out
      obtain ⟨b1, oa, hab1, hcs⟩ := hat.elem (f := fun (n : Nat) => [Value.int .i64 (n : Int)]) (sz := 1) (fun _ => rfl) (by decide) k h1
      have p0 : w.cell? ⟨b1, oa + k, none⟩ = some (.int .i64 (n : Int)) := by rw [← hx]; simpa using hcs 0 (by decide)
      have lb1 : b1 < w.heap.size := World.block_lt_of_cell? w _ p0
      replace p0 := cell_later pb p0
      have hix1 := ixs (t := 89) (e := 2) (sz := 1) Tryz.underlying89 (by kernel_rfl) N cap k (k : Int) hab1 hlt rfl
      rw [Nat.mul_one] at hix1
      have Hp : Hid (Win wr b1 (oa + k) [.int .i64 (n : Int)]) := fun j hj => by
        obtain rfl : j = 0 := by simp at hj; omega
        exact p0
      replace Hr := Lib.hid pR; replace Ho := Lib.hid pO; have Hv := Lib.hid pv; have Hbr := Lib.hid pb
      have hszr : w.heap.size ≤ wr.heap.size := pb.size
      clear pR pO pv hx hX hab1 p0 Hb pb hat hcs hnum hnn
      have Hb : Hid (Below wr.heap.size wr wr) := Below.refl _ _
      obtain ⟨y, hy⟩ : ∃ y : Int, (n : Int) = y := ⟨_, rfl⟩
      rw [hy] at Hp Hnum
      clear hy
      go_wp2_with fail
      have o0 : wr.cell? ⟨w.heap.size + 1, 0, none⟩ = some (.int .i64 V) := Ho.out.cell 0
      have fo0 : wr.frozen? ⟨w.heap.size + 1, 0, none⟩ = false := Ho.out.free 0
      have o1 : wr.cell? ⟨w.heap.size + 1, 1, none⟩ = some (.int .i64 D) := Ho.out.cell 1
      have fo1 : wr.frozen? ⟨w.heap.size + 1, 1, none⟩ = false := Ho.out.free 1
      have o2 : wr.cell? ⟨w.heap.size + 1, 2, none⟩ = some (v) := Ho.out.cell 2
      have fo2 : wr.frozen? ⟨w.heap.size + 1, 2, none⟩ = false := Ho.out.free 2
      have p0 : wr.cell? ⟨b1, oa + k, none⟩ = some (.int .i64 y) := Hp.out.cell 0 (by simp)
      refine wp_region_plan (fun w' => w'.cell? ⟨w.heap.size + 1, 2, none⟩ = some (v) ∧ w'.cell? ⟨b1, oa + k, none⟩ = some (.int .i64 y)) (fun i => Nat.blt i 10) [(0, true), (1, true), (2, true), (3, true), (4, true), (5, true), (6, false), (7, false), (8, false), (9, true), (10, false)] (by kernel_rfl) (by kernel_rfl) rfl (by kernel_rfl) (fun o c a v w => by cases o.dst <;> exact id) ⟨o2, p0⟩ ?_
      refine planT rfl rfl (v := ?_) (fun w' hw' => ?_) ?_; rotate_left; focus (go_simp; try with_reducible rfl)
      try simp only [Act.put, List.setIfInBounds_toArray, List.set_cons_zero, List.set_cons_succ]
      refine planT rfl rfl (v := ?_) (fun w' hw' => ?_) ?_; rotate_left; focus (obtain ⟨q0, q1⟩ := hw'; go_simp; try with_reducible rfl)
      try simp only [Act.put, List.setIfInBounds_toArray, List.set_cons_zero, List.set_cons_succ]
      refine planT rfl rfl (v := ?_) (fun w' hw' => ?_) ?_; rotate_left; focus (go_simp; try with_reducible rfl)
      try simp only [Act.put, List.setIfInBounds_toArray, List.set_cons_zero, List.set_cons_succ]
      refine planT rfl rfl (v := ?_) (fun w' hw' => ?_) ?_; rotate_left; focus (go_simp; try with_reducible rfl)
      try simp only [Act.put, List.setIfInBounds_toArray, List.set_cons_zero, List.set_cons_succ]
      refine planT rfl rfl (v := ?_) (fun w' hw' => ?_) ?_; rotate_left; focus (go_simp; try with_reducible rfl)
      try simp only [Act.put, List.setIfInBounds_toArray, List.set_cons_zero, List.set_cons_succ]
      refine planT rfl rfl (v := ?_) (fun w' hw' => ?_) ?_; rotate_left; focus (obtain ⟨q0, q1⟩ := hw'; go_simp; try with_reducible rfl)
      try simp only [Act.put, List.setIfInBounds_toArray, List.set_cons_zero, List.set_cons_succ]
      refine planF rfl rfl (fun K hK => ?_)
      go_simp
      with_reducible refine (Hnum.out _).mono ?_
      rintro e w5 ⟨rfl, hq⟩
      have hbn : Below wr.heap.size wr w5 := (by first | exact hq | exact bundrew hq); clear hq
      clear o0 fo0 o1 fo1 o2 fo2
      clear p0
      replace Ho := Lib.hid (Ho.out.below hbn)
      replace Hp := Lib.hid (Hp.out.below hbn)
      have o0 : w5.cell? ⟨w.heap.size + 1, 0, none⟩ = some (.int .i64 V) := Ho.out.cell 0
      have fo0 : w5.frozen? ⟨w.heap.size + 1, 0, none⟩ = false := Ho.out.free 0
      have o1 : w5.cell? ⟨w.heap.size + 1, 1, none⟩ = some (.int .i64 D) := Ho.out.cell 1
      have fo1 : w5.frozen? ⟨w.heap.size + 1, 1, none⟩ = false := Ho.out.free 1
      have o2 : w5.cell? ⟨w.heap.size + 1, 2, none⟩ = some (v) := Ho.out.cell 2
      have fo2 : w5.frozen? ⟨w.heap.size + 1, 2, none⟩ = false := Ho.out.free 2
      have p0 : w5.cell? ⟨b1, oa + k, none⟩ = some (.int .i64 y) := Hp.out.cell 0 (by simp)
      replace Hb := Lib.hid (bnext Hb.out hbn); clear hbn
      refine hK _ _ (fun _ => ⟨o2, p0⟩) ?_; clear hK K
      try simp only [Act.put, List.setIfInBounds_toArray, List.set_cons_zero, List.set_cons_succ]
      refine planF rfl rfl (fun K hK => ?_)
      go_simp
      refine hK _ _ (fun _ => ⟨cell_new o2, cell_new p0⟩) ?_; clear hK K
      try simp only [Act.put, List.setIfInBounds_toArray, List.set_cons_zero, List.set_cons_succ]
      refine plan_world (fun w6 => Blk w6 (w5.heap.size) 36 [.bool (sgnB (dN X)), .string (bs (nt (dN X).natAbs)), .int .i64 (dE X)] ∧ Below w5.heap.size w5 w6) (by first | exact ⟨Blk.new _ _ _, (Below.refl _ _).alloc (Nat.le_refl _) _⟩ | exact ⟨Blk.drew (Blk.new _ _ _), ((Below.refl _ _).alloc (Nat.le_refl _) _).drew⟩) ?_
      rintro w6 ⟨qc, hbn⟩
      clear o0 fo0 o1 fo1 o2 fo2
      clear p0
      have lz_o_w6 : w.heap.size + 1 < w5.heap.size := Ho.out.lt
      replace Ho := Lib.hid (Ho.out.below hbn)
      replace Hp := Lib.hid (Hp.out.below hbn)
      have Hc := Lib.hid qc; clear qc
      have o0 : w6.cell? ⟨w.heap.size + 1, 0, none⟩ = some (.int .i64 V) := Ho.out.cell 0
      have fo0 : w6.frozen? ⟨w.heap.size + 1, 0, none⟩ = false := Ho.out.free 0
      have o1 : w6.cell? ⟨w.heap.size + 1, 1, none⟩ = some (.int .i64 D) := Ho.out.cell 1
      have fo1 : w6.frozen? ⟨w.heap.size + 1, 1, none⟩ = false := Ho.out.free 1
      have o2 : w6.cell? ⟨w.heap.size + 1, 2, none⟩ = some (v) := Ho.out.cell 2
      have fo2 : w6.frozen? ⟨w.heap.size + 1, 2, none⟩ = false := Ho.out.free 2
      have p0 : w6.cell? ⟨b1, oa + k, none⟩ = some (.int .i64 y) := Hp.out.cell 0 (by simp)
      have c0 : w6.cell? ⟨w5.heap.size, 0, none⟩ = some (.bool (sgnB (dN X))) := Hc.out.cell 0
      have c1 : w6.cell? ⟨w5.heap.size, 1, none⟩ = some (.string (bs (nt (dN X).natAbs))) := Hc.out.cell 1
      have c2 : w6.cell? ⟨w5.heap.size, 2, none⟩ = some (.int .i64 (dE X)) := Hc.out.cell 2
      replace Hb := Lib.hid (bnext Hb.out hbn); clear hbn
      refine planF rfl rfl (fun K hK => ?_)
      have hv6 := ownsRow_below Hv.out Hb.out
      have hs6 := Hb.out.size
      refine wp_append_own _ _ _ 22 rfl w.heap.size 36 i0 _ 3 32 Tryz.underlying22 Hi.out Hz0.out Hz1.out Hz2.out rfl (by decide) v k (dC (Z.take k)) rfl hv6 ⟨w5.heap.size, 0, none⟩ 1 1 [.bool (sgnB (dN X)), .string (bs (nt (dN X).natAbs)), .int .i64 (dE X)] rfl rfl (blk_news Hc.out) (by simp [Value.oneCell']) (by simp [maxLen]; omega) (by omega) (by omega) ?_
      intro v' w7 ho7 hg7 _
      obtain ⟨g', cq, rfl⟩ := ownsRow_succ ho7
      have nb : ∀ b, b < w.heap.size → some b ≠ v.ownBlock := fun b hb e => by have := ownsRow_base hv6 b e.symm; omega
      have ho2 := Ho.out.row (by decide) hv6 hg7
      have hr2 := (Hr.out.below Hb.out).row (by decide) hv6 hg7
      refine hK _ _ (fun _ => ⟨ho2.cell 2, grownBy_cell hg7 p0 (nb _ lb1)⟩) ?_; clear hK K
      clear o0 o1 o2 fo0 fo1 fo2 p0 c0 c1 c2
      try simp only [Act.put, List.setIfInBounds_toArray, List.set_cons_zero, List.set_cons_succ]
      refine planT rfl rfl (v := ?_) (fun w' hw' => ?_) ?_; rotate_left; focus (go_simp; try with_reducible rfl)
      try simp only [Act.put, List.setIfInBounds_toArray, List.set_cons_zero, List.set_cons_succ]
      refine planF rfl rfl (fun K hK => ?_)
      have o2 : w7.cell? ⟨w.heap.size + 1, 2, none⟩ = some v := ho2.cell 2
      have fo2 : w7.frozen? ⟨w.heap.size + 1, 2, none⟩ = false := ho2.free 2
      have Hnr := Lib.hid (ho2.not_row (by decide) ho7)
      have H1 := Lib.hid ho2; have H4 := Lib.hid hr2; have H5 := Lib.hid ho7; have H6 := Lib.hid hg7; have H7 := Lib.hid hv6
      clear ho2 hr2 ho7 hg7 hv6
      go_simp
      refine hK _ _ (fun h => absurd h (by decide)) ?_; clear hK K
      simp only [wpPlan]
      go_wp2
      go_roundw
      case rel =>
        refine ⟨k + 1, by omega, by go_num, .slice (some ⟨g', 0, none⟩) (k + 1) cq, ?_, ?_, ?_, ?_⟩
        · rw [Hst.out]
          exact H5.out.kept (grownBy_set (w := w7) (a := ⟨w.heap.size + 1, 2, none⟩) (w.heap.size + 1) rfl _) (.inr Hnr.out.symm)
        · exact H4.out.set_other ⟨w.heap.size + 1, 2, none⟩ (by dsimp only; omega) _
        · exact H1.out.set 2 _
        · refine Below.setCell ?_ (by dsimp only; omega) _
          exact (bnext Hbr.out Hb.out).grown H6.out (by omega) (fun j e => ownsRow_base H7.out j e)
      case measure => simp [intOf]; omega
    · obtain rfl : k = N := by omega
      have hZl : Z.take k = Z := by rw [List.take_of_length_le]; rw [← HZ.out]; simp [HN.out]
      rw [hZl] at pv
      obtain ⟨a2, cap2, rfl, hat, hab⟩ := ownsRow_at pv
      have Hat := Lib.hid hat; have Hab := Lib.hid hab; have HB := Lib.hid pb; have HR := Lib.hid pR; have HV := Lib.hid pv
      have o0 : wr.cell? ⟨w.heap.size + 1, 0, none⟩ = some (.int .i64 V) := pO.cell 0
      have o1 : wr.cell? ⟨w.heap.size + 1, 1, none⟩ = some (.int .i64 D) := pO.cell 1
      have o2 : wr.cell? ⟨w.heap.size + 1, 2, none⟩ = some (.slice a2 k cap2) := pO.cell 2
      have r0 : wr.cell? ⟨w.heap.size, 0, none⟩ = some (.int .i64 0) := pR.cell 0
      have r1 : wr.cell? ⟨w.heap.size, 1, none⟩ = some (.int .i64 0) := pR.cell 1
      have r2 : wr.cell? ⟨w.heap.size, 2, none⟩ = some (.slice none 0 0) := pR.cell 2
      have fr0 := pR.free 0; have fr1 := pR.free 1; have fr2 := pR.free 2
      clear pR pO pb pv hat hab hZl
      go_wp2
      refine bodyPost_ret (v := .agg #[.int .i64 V, .int .i64 D, .slice a2 k cap2]) (by simp [results, Tryz.results16, go_sem, r0, r1, r2]) rfl ⟨a2, cap2, rfl, ?_, ?_⟩
      · have hne : ∀ b o, a2 = some ⟨b, o, none⟩ → some b ≠ some (w.heap.size) := by
          intro b o e h
          subst e
          have := HR.out.not_row (by decide) HV.out
          simp [Value.ownBlock] at this h
          omega
        exact ((Hat.out.grown (grownBy_set (w := wr) (a := ⟨w.heap.size, 0, none⟩) _ rfl (.int .i64 V)) hne).grown (grownBy_set (a := ⟨w.heap.size, 1, none⟩) _ rfl (.int .i64 D)) hne).grown (grownBy_set (a := ⟨w.heap.size, 2, none⟩) _ rfl _) hne
      · exact (((HB.out.setCell (by dsimp only; omega) _).setCell (by dsimp only; omega) _).setCell (by dsimp only; omega) _)
end Go.Proofs.YtidjljldhdckiaaGreatDoor

/- Package scast: Face at the first corner (what the chapter's examples ask). -/
namespace Go.Proofs.YtidjljldhdckiaaGreatDoor
open Go.RowKit
attribute [local go_sem ↓] Go.wp_at_zero Go.wp_at_succ

theorem wp_builtin_by {P : Program} {w w' : World} {o : Oper} {a : Act} {K : Act → World → Prop} {Q : Exit → Act → World → Prop} (d s : Operand) (dT sT : TypeId)
    (ho : o.op = .call { callee := .builtin .append, args := #[d, s], argTypes := #[dT, sT] }) (x y v : Value) (hd : a.eval d = x) (hs : a.eval s = y)
    (hrun : (Builtin.append_ #[dT, sT] o.type #[x, y]).run P w = .ok v w') (h : K (a.put o.dst v) w') : o.wp P a w K Q := by
  unfold Oper.wp execOp
  simp only [ho, resolve, invoke, builtin, Sem.run_bind, Sem.run_pure, Result.andThen_ok, List.map_toArray, List.map_cons, List.map_nil, hd, hs, hrun]
  exact h

/-- The cells of a row whose first byte is struck: the last one stands twice. -/
theorem append_front {w : World} {bM : Nat} {y : UInt8} {l : List UInt8} (h : Blk w bM 5 (byteC (y :: l))) (_hl : l.length ≤ 255) (ty : TypeId) (c : Nat) :
    ∃ w', (Builtin.append_ #[67, 67] ty #[.slice (some ⟨bM, 0, none⟩) 0 (l.length + 1), .slice (some ⟨bM, 1, none⟩) l.length c]).run Tryz.prog w = .ok (.slice (some ⟨bM, 0, none⟩) l.length (l.length + 1)) w' ∧
      (∃ z, Blk w' bM 5 (byteC (l ++ [z]))) ∧ w.grownBy w' (some bM) := by
  obtain ⟨i0, hi, hz0, hz1, hz2⟩ := info_parts Tryz.infoB
  have hr := run_append_room (P := Tryz.prog) w 67 ty 5 i0 Tryz.underlying67 hi bM 0 (l.length + 1) (byteC (y :: l)).toArray h ⟨bM, 1, none⟩ l.length c (byteC l) (by rw [hz1]; simp [byteC]) ?_ ?_ (by omega) (by rw [hz1]; simp [byteC])
  · rw [Nat.zero_add] at hr
    refine ⟨_, hr, ?_, ?_⟩
    · have e : ∃ z, (List.take (0 * i0.size) (byteC (y :: l)).toArray.toList ++ byteC l ++ List.drop (0 * i0.size + (byteC l).length) (byteC (y :: l)).toArray.toList) = byteC (l ++ [z]) := by
        refine ⟨(y :: l)[l.length]'(by simp), ?_⟩
        rw [hz1]
        have h2 : (byteC (y :: l)).drop l.length = byteC [(y :: l)[l.length]'(by simp)] := by
          unfold byteC
          rw [← List.map_drop, List.drop_eq_getElem_cons (by simp)]
          rw [List.drop_of_length_le (by simp)]
        have h3 : (byteC l).length = l.length := by simp [byteC]
        rw [h3, Nat.zero_mul, Nat.zero_add, List.take_zero, List.nil_append, h2]
        unfold byteC
        rw [List.map_append]
      obtain ⟨z, hz⟩ := e
      refine ⟨z, ?_⟩
      rw [hz]
      exact setRow_heap w bM _ _ 5 _ h
    · exact ⟨rfl, rfl, rfl, by simp, fun k _ hk => setRow_other w bM k _ (fun e => hk (by rw [e]))⟩
  · intro j u hj
    have hjl : j < l.length := by
      rcases Nat.lt_or_ge j l.length with h1 | h1
      · exact h1
      · rw [List.getElem?_eq_none (by simp [byteC]; exact h1)] at hj; cases hj
    have e2 : ((⟨bM, 1, none⟩ : Addr).add j) = ⟨bM, j + 1, none⟩ := by cases j <;> simp [Addr.add] <;> omega
    rw [e2, h.cell]
    simpa [byteC] using hj
  · intro u hu
    unfold byteC at hu
    rw [List.mem_map] at hu
    obtain ⟨x, _, rfl⟩ := hu
    rfl

theorem take_string {w : World} {b : Nat} {t : TypeId} {l : List UInt8} {z : UInt8} (h : Blk w b t (byteC (l ++ [z]))) (cap : Nat) :
    (convert 67 9 (.slice (some ⟨b, 0, none⟩) l.length cap)).run Tryz.prog w = .ok (.string (bs l)) w := by
  have := run_convert_bytes_arg (P := Tryz.prog) w 67 5 Tryz.underlying67 Tryz.underlying5 b 0 l.length cap (l.map fun u => (u.toNat : Int)) (by simp) (fun i hi => by
    rw [Nat.zero_add, h.cell, byteC_get _ i (by simp; omega)]
    simp [List.getElem_append_left hi, hi]) 9 Tryz.underlying9
  rw [this]
  unfold strOfNums bs
  rw [List.map_map]
  have e : l.map ((fun n : Int => UInt8.ofNat n.toNat) ∘ fun u : UInt8 => (u.toNat : Int)) = l := by
    conv => rhs; rw [← List.map_id l]
    refine List.map_congr_left (fun u _ => ?_)
    simp
  rw [e]

set_option maxHeartbeats 4000000 in
set_option maxRecDepth 100000 in
theorem face1_any (v d : Int) (bB bm bM bx bj n B : Nat) (f : List UInt8 → Nat) (ds : List Dyadic) (y : UInt8) (l : List UInt8) (s : Bool) (m : List UInt8) (e : Int) (w : World)
    (hX : Blk w bx 64 [.int .i64 v, .int .i64 d, .slice (some ⟨bB, 0, none⟩) ds.length ds.length, .map (some bm)]) (hJ : Blk w bj 3 [.int .i64 0])
    (hB : Blk w bB 36 (dC ds)) (hm : Mp w bm n f) (hM : Blk w bM 5 (byteC (y :: l))) (hl : l.length ≤ 8) (hl1 : 1 ≤ l.length)
    (hf : y = 0 → f l < ds.length) (hx : Fit B (s, m, e)) (hd : ∀ x ∈ ds, Sm B x) (hBB : B + 2 ≤ 268435456) (hT : Tab w)
    (t1 : 0 ≠ bM) (t2 : 0 ≠ bB) :
    Calls Tryz.prog 39 #[.slice (some ⟨bM, 0, none⟩) (l.length + 1) (l.length + 1), .agg #[.bool s, .string (bs m), .int .i64 e], .pointer (some ⟨bj, 0, none⟩), .pointer (some ⟨bx, 0, none⟩)] w fun ex w' =>
      (∃ r, ex = .returned r) ∧ Blk w' bB 36 (dC (if y = 0 then addAt ds (f l) (dval (s, m, e)) else ds)) ∧ Chg (fun b => b = bM ∨ b = bB) w w' := by
  have nMB : bM ≠ bB := by rintro rfl; have h := hM.symm.trans hB; simp at h
  have nMX : bM ≠ bx := by rintro rfl; have h := hM.symm.trans hX; simp at h
  have nXB : bx ≠ bB := by rintro rfl; have h := hX.symm.trans hB; simp at h
  have nMJ : bM ≠ bj := by rintro rfl; have h := hM.symm.trans hJ; simp at h
  have nBJ : bB ≠ bj := by rintro rfl; have h := hB.symm.trans hJ; simp at h
  have nmM : bm ≠ bM := by
    rintro rfl
    obtain ⟨D, ⟨es, clock, hb, _⟩, _⟩ := hm
    have h := hM.symm.trans hb; simp at h
  obtain ⟨W, hW⟩ : ∃ W, w.alloc (.cells #[.bool s, .string (bs m), .int .i64 e] 36) = W := ⟨_, rfl⟩
  have hb0 : Below w.heap.size w W := by rw [← hW]; exact (Below.refl _ _).alloc (Nat.le_refl _) _
  have Hc : Hid (Blk W w.heap.size 36 [.bool s, .string (bs m), .int .i64 e]) := by rw [← hW]; exact Blk.new _ _ _
  have lM := hM.lt; have lB := hB.lt
  have m0 : W.cell? ⟨bM, 0, none⟩ = some (.int .u8 (y.toNat : Int)) := (hM.below hb0).cell 0
  have Hj := Lib.hid (hJ.below hb0); have Hx := Lib.hid (hX.below hb0); have HM := Lib.hid (hM.below hb0); have HB := Lib.hid (hB.below hb0); have Hm := Lib.hid (hm.below hb0); have HT := Lib.hid (hT.below hb0); have Hb0 := Lib.hid hb0
  have hix := ixs (t := 67) (e := 5) (sz := 1) Tryz.underlying67 (by kernel_rfl) (l.length + 1) (l.length + 1) 0 0 (show (some ⟨bM, 0, none⟩ : Option Addr) = some ⟨bM, 0, none⟩ from rfl) (by omega) rfl
  have Hd := Lib.hid hd; have Hx0 := Lib.hid hx; have Hf0 := Lib.hid hf; have hT0 := Lib.hid hT
  clear hX hJ hB hm hM hT hb0 hd hx hf
  have j0 : W.cell? ⟨bj, 0, none⟩ = some (.int .i64 0) := Hj.out.cell 0
  obtain ⟨N, hN⟩ : ∃ N, l.length = N := ⟨_, rfl⟩
  rw [hN] at hl hl1 hix ⊢
  have HN := Lib.hid hN; clear hN
  have hle0 : (0 : Int) ≤ (N : Int) + 1 := by omega
  have hle1 : (1 : Int) ≤ (N : Int) + 1 := by omega
  have hle2 : ¬ N = 0 := by omega
  have hw1 : IntKind.i64.wrap 1 = 1 := by rw [IntKind.wrap_i64]; omega
  by_cases hy : y = 0
  · rw [if_pos hy]
    subst hy
    obtain ⟨X, hX⟩ : ∃ X, dval (s, m, e) = X := ⟨_, rfl⟩
    have hy0 : ((0 : UInt8).toNat : Int) = 0 := rfl
    rw [hy0] at m0
    clear hy0
    go_enter Tryz.func39, Tryz.ntmps39
    go_wp2_with fail
    clear j0
    have Hb : Hid (Below W.heap.size W W) := Below.refl _ _
    have c0 : W.cell? ⟨w.heap.size, 0, none⟩ = some (.bool s) := Hc.out.cell 0
    have c1 : W.cell? ⟨w.heap.size, 1, none⟩ = some (.string (bs m)) := Hc.out.cell 1
    have c2 : W.cell? ⟨w.heap.size, 2, none⟩ = some (.int .i64 e) := Hc.out.cell 2
    have x0 : W.cell? ⟨bx, 0, none⟩ = some (.int .i64 v) := Hx.out.cell 0
    have x1 : W.cell? ⟨bx, 1, none⟩ = some (.int .i64 d) := Hx.out.cell 1
    have x2 : W.cell? ⟨bx, 2, none⟩ = some (.slice (some ⟨bB, 0, none⟩) ds.length ds.length) := Hx.out.cell 2
    have x3 : W.cell? ⟨bx, 3, none⟩ = some (.map (some bm)) := Hx.out.cell 3
    have j0 : W.cell? ⟨bj, 0, none⟩ = some (.int .i64 0) := Hj.out.cell 0
    refine wp_region_plan (fun w' => w'.cell? ⟨w.heap.size, 0, none⟩ = some (.bool s) ∧ w'.cell? ⟨w.heap.size, 1, none⟩ = some (.string (bs m)) ∧ w'.cell? ⟨w.heap.size, 2, none⟩ = some (.int .i64 e) ∧ w'.cell? ⟨bx, 0, none⟩ = some (.int .i64 v) ∧ w'.cell? ⟨bx, 1, none⟩ = some (.int .i64 d) ∧ w'.cell? ⟨bx, 2, none⟩ = some (.slice (some ⟨bB, 0, none⟩) ds.length ds.length) ∧ w'.cell? ⟨bx, 3, none⟩ = some (.map (some bm)) ∧ w'.cell? ⟨bj, 0, none⟩ = some (.int .i64 0)) (fun i => Nat.blt i 100000) [(0, true), (1, true), (2, true), (3, true), (4, true), (5, true), (6, true), (7, true), (9, true), (8, false), (10, false)] (by kernel_rfl) (by kernel_rfl) rfl (by kernel_rfl) (fun o c a v w => by cases o.dst <;> exact id) ⟨c0, c1, c2, x0, x1, x2, x3, j0⟩ ?_
    refine planT rfl rfl (v := ?_) (fun w' hw' => ?_) ?_; rotate_left; focus (obtain ⟨q0, q1, q2, q3, q4, q5, q6, q7⟩ := hw'; go_simp; try with_reducible rfl)
    try simp only [Act.put, List.setIfInBounds_toArray, List.set_cons_zero, List.set_cons_succ]
    refine planT rfl rfl (v := ?_) (fun w' hw' => ?_) ?_; rotate_left; focus (go_simp; try with_reducible rfl)
    try simp only [Act.put, List.setIfInBounds_toArray, List.set_cons_zero, List.set_cons_succ]
    refine planT rfl rfl (v := ?_) (fun w' hw' => ?_) ?_; rotate_left; focus (obtain ⟨q0, q1, q2, q3, q4, q5, q6, q7⟩ := hw'; go_simp; try with_reducible rfl)
    try simp only [Act.put, List.setIfInBounds_toArray, List.set_cons_zero, List.set_cons_succ]
    refine planT rfl rfl (v := ?_) (fun w' hw' => ?_) ?_; rotate_left; focus (go_simp; try with_reducible rfl)
    try simp only [Act.put, List.setIfInBounds_toArray, List.set_cons_zero, List.set_cons_succ]
    refine planT rfl rfl (v := ?_) (fun w' hw' => ?_) ?_; rotate_left; focus (go_simp; try with_reducible rfl)
    try simp only [Act.put, List.setIfInBounds_toArray, List.set_cons_zero, List.set_cons_succ]
    refine planT rfl rfl (v := ?_) (fun w' hw' => ?_) ?_; rotate_left; focus (obtain ⟨q0, q1, q2, q3, q4, q5, q6, q7⟩ := hw'; go_simp; try with_reducible rfl)
    try simp only [Act.put, List.setIfInBounds_toArray, List.set_cons_zero, List.set_cons_succ]
    refine planT rfl rfl (v := ?_) (fun w' hw' => ?_) ?_; rotate_left; focus (go_simp; try with_reducible rfl)
    try simp only [Act.put, List.setIfInBounds_toArray, List.set_cons_zero, List.set_cons_succ]
    refine planT rfl rfl (v := ?_) (fun w' hw' => ?_) ?_; rotate_left; focus (go_simp; try with_reducible rfl)
    try simp only [Act.put, List.setIfInBounds_toArray, List.set_cons_zero, List.set_cons_succ]
    refine planT rfl rfl (v := ?_) (fun w' hw' => ?_) ?_; rotate_left; focus (obtain ⟨q0, q1, q2, q3, q4, q5, q6, q7⟩ := hw'; go_simp; try with_reducible rfl)
    try simp only [Act.put, List.setIfInBounds_toArray, List.set_cons_zero, List.set_cons_succ]
    refine planF rfl rfl (fun K hK => ?_)
    obtain ⟨w1, hrun, ⟨z, hz⟩, hg⟩ := append_front (w := W.drew) HM.out.drew (by rw [HN.out]; omega) 67 N
    rw [HN.out] at hrun
    refine wp_builtin_by _ _ _ _ rfl _ _ _ rfl rfl hrun ?_
    have kp : ∀ b, b ≠ bM → some b ≠ some bM := fun b h e => h (by cases e; rfl)
    have hc1 := Hc.out.drew.grown hg (kp _ (by omega)); have hx1 := Hx.out.drew.grown hg (kp _ (fun e => nMX e.symm)); have hj1 := Hj.out.drew.grown hg (kp _ (fun e => nMJ e.symm))
    refine hK _ _ (fun _ => ⟨hc1.cell 0, hc1.cell 1, hc1.cell 2, hx1.cell 0, hx1.cell 1, hx1.cell 2, hx1.cell 3, hj1.cell 0⟩) ?_; clear hK K
    have Cg : Chg (fun b => b = bM ∨ b = bB) w w1 := (Chg.of_below (Y := fun b => b = bM ∨ b = bB) Hb0.out).trans (Chg.of_grown (Y := fun b => b = bM) (W := W) (W' := w1) (r := some bM) ⟨hg.os, hg.tape, hg.output, hg.size, hg.block⟩ (fun b e => by cases e; rfl)) (fun b h => .inl (.inl h))
    have hB1 := HB.out.drew.grown hg (kp _ (fun e => nMB e.symm))
    have hm1 : Mp w1 bm n f := Hm.out.kept (r := some bM) ⟨hg.os, hg.tape, hg.output, hg.size, hg.block⟩ (kp _ nmM)
    have hT1 : Tab w1 := Cg.tab hT0.out (by rintro (h | h); exact t1 h; exact t2 h)
    have hfl : f l < ds.length := by simpa using Hf0.out
    have hput := put_conv v d bB bm bM N (N + 1) n (f l) B f ds l s m e (ds[f l] + dval (s, m, e)) w1 hB1 hm1 (fun W' hW' => by
      have := hz.below hW'
      have h2 := take_string this (N + 1)
      rw [HN.out] at h2
      exact h2) (by rw [HN.out]; omega) rfl hfl Hx0.out (Hd.out _ (List.getElem_mem hfl)) hBB rfl hT1
    have est : ds.set (f l) (ds[f l] + dval (s, m, e)) = addAt ds (f l) (dval (s, m, e)) := by unfold addAt; congr 1; simp [hfl]
    rw [est] at hput
    have Hput := Lib.hid hput; have HCg := Lib.hid Cg; have G1 := Lib.hid hc1; have G2 := Lib.hid hx1; have G3 := Lib.hid hj1
    clear hput est hB1 hm1 hT1 hfl hc1 hx1 hj1 hz hg Cg c0 c1 c2 x0 x1 x2 x3 j0 m0
    try simp only [Act.put, List.setIfInBounds_toArray, List.set_cons_zero, List.set_cons_succ]
    refine planF rfl rfl (fun K hK => ?_)
    go_simp
    refine Hput.out.mono ?_
    rintro e' w2 ⟨⟨r, rfl⟩, qB, qg⟩
    have kb : ∀ b, b ≠ bB → some b ≠ some bB := fun b h e => h (by cases e; rfl)
    have g1 := G1.out.grown qg (kb _ (by omega)); have g2 := G2.out.grown qg (kb _ nXB); have g3 := G3.out.grown qg (kb _ (fun e => nBJ e.symm))
    refine hK _ _ (fun _ => ⟨g1.cell 0, g1.cell 1, g1.cell 2, g2.cell 0, g2.cell 1, g2.cell 2, g2.cell 3, g3.cell 0⟩) ?_
    clear hK K g1 g2 g3
    simp only [wpPlan]
    go_wp2
    go_end0
    exact ⟨⟨_, rfl⟩, qB, HCg.out.trans (Chg.of_grown (Y := fun b => b = bB) qg (fun b e => by cases e; rfl)) (fun b h => .inl (.inr h))⟩
  · rw [if_neg hy]
    have hy1 : ((y.toNat : Int) == 0) = false := by
      have : y.toNat ≠ 0 := fun h => hy (by rw [← UInt8.toNat_inj]; exact h)
      simp; omega
    generalize (y.toNat : Int) = yy at *
    go_enter Tryz.func39, Tryz.ntmps39
    go_wp2
    go_end0
    exact ⟨⟨_, rfl⟩, HB.out, Chg.of_below Hb0.out⟩
end Go.Proofs.YtidjljldhdckiaaGreatDoor

/- Package scast: Face at the first corner, of a form of two variables or more. -/
namespace Go.Proofs.YtidjljldhdckiaaGreatDoor
open Go.RowKit
attribute [local go_sem ↓] Go.wp_at_zero Go.wp_at_succ

/-- What Face at the first corner puts. -/
def faceR (x : List Nat) (c : Dyadic) : Puts := if x.getD 0 0 = 0 then [(x.drop 1, c)] else []
def faceP (R : List (List Nat)) (cs : List Dyadic) : Puts := (List.range R.length).flatMap fun k => faceR (R.getD k []) (cs.getD k 0)
def faceL (U D : Nat) (cs : List Dyadic) : List Dyadic := colL (rowsL (U + 1) D) (faceP (rowsL (U + 1 + 1) D) cs)
theorem faceR_len (x : List Nat) (c : Dyadic) : (faceR x c).length ≤ 1 := by unfold faceR; split <;> simp

theorem face_put (f : List UInt8 → Nat) (ds : List Dyadic) (a : Nat) (l : List Nat) (c : Dyadic) (ha : a ≤ 255) :
    putAll f ds (faceR (a :: l) c) = if UInt8.ofNat a = 0 then addAt ds (f (l.map UInt8.ofNat)) c else ds := by
  unfold faceR
  by_cases h : a = 0
  · subst h
    rw [if_pos (by rfl), if_pos (by rfl)]; rfl
  · have h2 : ¬ UInt8.ofNat a = 0 := by
      intro e
      have := congrArg UInt8.toNat e
      simp at this; omega
    rw [if_neg (by simpa using h), if_neg h2]; rfl

set_option maxHeartbeats 4000000 in
set_option maxRecDepth 100000 in
theorem face_ok (U D : Nat) (a : Option Addr) (cap : Nat) (raws : List Raw) (B : Nat) (w : World) (hc0 : chk ((U + 1 : Nat) : Int) D raws.length = 0) (hU : 1 ≤ U) (hc1 : cnt U D ≤ 512)
    (hfit : ∀ x ∈ raws, Fit B x) (hBB : B ≤ 1000000) (ha : At w a (raws.flatMap numC)) (hT : Tab w) :
    Calls Tryz.prog 17 #[.agg #[.int .i64 ((U + 1 : Nat) : Int), .int .i64 (D : Int), .slice a raws.length cap], .int .i64 0] w fun e w' => ∃ r,
      e = .returned (.tuple #[.agg #[.int .i64 (U : Int), .int .i64 (D : Int), .slice (some ⟨r, 0, none⟩) (cnt U D) (cnt U D)], .int .i64 0]) ∧ Blk w' r 36 (dC (faceL U D (raws.map dval))) ∧ w.heap.size ≤ r ∧ Below w.heap.size w w' := by
  obtain ⟨c1, c2, c3, c4, c5, c6⟩ := chk_ok hc0
  simp only [Int.toNat_natCast] at c5
  have hlen : raws.length = cnt (U + 1) D := c5
  have hc : cnt (U + 1) D ≤ 512 := by omega
  have hV2 : U + 1 ≤ 8 := by omega
  have hD : D ≤ 20 := by omega
  obtain ⟨N, hN⟩ : ∃ N, cnt U D = N := ⟨_, rfl⟩
  have hRl : (rowsL (U + 1 + 1) D).length = raws.length := by rw [rowsL_count, hlen]
  have hRl' : (rowsL (U + 1) D).length = N := by rw [rowsL_count, hN]
  have hkeys0 := keysL_rows (U + 1) D (by omega) hV2 (by omega) hc
  have hkeys := keysL_rows U D hU (by omega) (by omega) hc1
  have hbeg := begin_any (U : Int) (D : Int) (fun l hl => Nat.le_trans (keysL_len _ _ l hl) (by decide))
  obtain ⟨R, hR⟩ : ∃ R, rowsL (U + 1 + 1) D = R := ⟨_, rfl⟩
  obtain ⟨R', hR'⟩ : ∃ R', rowsL (U + 1) D = R' := ⟨_, rfl⟩
  obtain ⟨f, hf⟩ : ∃ f, place (R'.map fun x => x.map UInt8.ofNat) R'.length = f := ⟨_, rfl⟩
  have hkl0 : (keysL ((U + 1 : Nat) : Int) (D : Int)).length = raws.length := by rw [hkeys0, List.length_map, hRl]
  have hkl : (keysL (U : Int) (D : Int)).length = N := by rw [hkeys, List.length_map, hRl']
  have hplace : ∀ x ∈ R', ∃ q, ∃ h : q < R'.length, R'[q] = x ∧ f (x.map UInt8.ofNat) = q := by
    intro x hx
    rw [← hR'] at hx
    have := place_row (n := U) (s := D) (by omega) hx
    subst hR'; subst hf
    exact this
  have hpl : place (keysL (U : Int) (D : Int)) N = f := by rw [hkeys, ← hRl', hR', hf]
  rw [hkl, hpl] at hbeg
  unfold faceL
  rw [hR] at hRl hkeys0 ⊢
  rw [hR'] at hRl' ⊢
  rw [hN]
  have hmem : ∀ x ∈ R, x.length = U + 1 + 1 ∧ x.sum = D := fun x hx => (mem_rowsL (U + 1) D x).1 (by rw [hR]; exact hx)
  have hmem2 : ∀ x, x.length = U + 1 → x.sum = D → x ∈ R' := fun x h1 h2 => by rw [← hR']; exact (mem_rowsL U D x).2 ⟨h1, h2⟩
  have hnd : R'.Nodup := by rw [← hR']; exact rowsL_nodup U D
  have h1 := has_any ((U + 1 : Nat) : Int) D a raws.length cap 0
  rw [decide_eq_true (by omega)] at h1
  obtain ⟨V1, hV1⟩ : ∃ V1 : Int, ((U + 1 : Nat) : Int) = V1 := ⟨_, rfl⟩
  have hw1 : IntKind.i64.wrap (V1 - 1) = (U : Int) := by rw [IntKind.wrap_i64]; omega
  have hv1 : (V1 == 1) = false := by simp; omega
  have hVU : V1 = (U : Int) + 1 := by omega
  rw [hV1] at hc0 hkeys0 hkl0 h1 ⊢
  have Hc := Lib.hid hc0; have Hbeg := Lib.hid hbeg; have Hkeys := Lib.hid hkeys0; have Hplace := Lib.hid hplace; have Hmem := Lib.hid hmem; have Hmem2 := Lib.hid hmem2; have Hnd := Lib.hid hnd; have HRl := Lib.hid hRl; have HRl' := Lib.hid hRl'; have Hfit := Lib.hid hfit; have Hlen := Lib.hid hlen; have HA := Lib.hid ha; have HT := Lib.hid hT; have Hkl := Lib.hid hkl0; have HN := Lib.hid hN; have H1 := Lib.hid h1; have HVU := Lib.hid hVU
  have Hal : Hid (∀ b o, a = some ⟨b, o, none⟩ → b < w.heap.size) := by
    intro b o e
    subst e
    refine ha.lt (fun h0 => ?_)
    have h1 := congrArg List.length h0
    rw [flat_length numC 3 (fun _ => rfl)] at h1
    have := cnt_pos (U + 1) D
    rw [List.length_nil] at h1
    omega
  clear hbeg hkeys hkeys0 hplace hmem hmem2 hnd hRl hRl' hfit hlen ha hT hR hR' hf hpl hkl hkl0 hc0 c1 c2 c5 c6 hN hc1 hV1 h1 hVU
  obtain ⟨W, hW_W⟩ : ∃ W, (((w.alloc (.cells #[.int .i64 V1, .int .i64 (D : Int), .slice a raws.length cap] 24)).alloc (.cells #[.int .i64 0] 3)).alloc (.cells #[.int .i64 0, .int .i64 0, .slice none 0 0] 24)) = W := ⟨_, rfl⟩
  have Hb : Hid (Below w.heap.size w W) := by rw [← hW_W]; exact ((((Below.refl _ _).alloc (Nat.le_refl _) _).alloc (by simp <;> omega) _).alloc (by simp <;> omega) _)
  have Hq : Hid (Blk W (w.heap.size) 24 [.int .i64 V1, .int .i64 (D : Int), .slice a raws.length cap]) := by rw [← hW_W]; exact ((Blk.newAt _ _ _ (by simp)).alloc _).alloc _
  have Hj : Hid (Blk W (w.heap.size + 1) 3 [.int .i64 0]) := by rw [← hW_W]; exact (Blk.newAt _ _ _ (by simp)).alloc _
  have Hr : Hid (Blk W (w.heap.size + 1 + 1) 24 [.int .i64 0, .int .i64 0, .slice none 0 0]) := by rw [← hW_W]; exact Blk.newAt _ _ _ (by simp)
  have q0 : W.cell? ⟨w.heap.size, 0, none⟩ = some (.int .i64 V1) := Hq.out.cell 0
  have q1 : W.cell? ⟨w.heap.size, 1, none⟩ = some (.int .i64 (D : Int)) := Hq.out.cell 1
  have q2 : W.cell? ⟨w.heap.size, 2, none⟩ = some (.slice a raws.length cap) := Hq.out.cell 2
  have j0 : W.cell? ⟨w.heap.size + 1, 0, none⟩ = some (.int .i64 0) := Hj.out.cell 0
  have r0 : W.cell? ⟨w.heap.size + 1 + 1, 0, none⟩ = some (.int .i64 0) := Hr.out.cell 0
  have fr0 : W.frozen? ⟨w.heap.size + 1 + 1, 0, none⟩ = false := Hr.out.free 0
  have r1 : W.cell? ⟨w.heap.size + 1 + 1, 1, none⟩ = some (.int .i64 0) := Hr.out.cell 1
  have fr1 : W.frozen? ⟨w.heap.size + 1 + 1, 1, none⟩ = false := Hr.out.free 1
  have r2 : W.cell? ⟨w.heap.size + 1 + 1, 2, none⟩ = some (.slice none 0 0) := Hr.out.cell 2
  have fr2 : W.frozen? ⟨w.heap.size + 1 + 1, 2, none⟩ = false := Hr.out.free 2
  go_enter Tryz.func17, Tryz.ntmps17
  go_wp2_with fail
  refine (check_any V1 D a raws.length cap 0 Hc.out _).mono ?_
  rintro e w0 ⟨rfl, hbn⟩
  clear q0 q1 q2
  clear j0
  clear r0 fr0 r1 fr1 r2 fr2
  replace Hq := Lib.hid (Hq.out.below hbn)
  replace Hj := Lib.hid (Hj.out.below hbn)
  replace Hr := Lib.hid (Hr.out.below hbn)
  have q0 : w0.cell? ⟨w.heap.size, 0, none⟩ = some (.int .i64 V1) := Hq.out.cell 0
  have q1 : w0.cell? ⟨w.heap.size, 1, none⟩ = some (.int .i64 (D : Int)) := Hq.out.cell 1
  have q2 : w0.cell? ⟨w.heap.size, 2, none⟩ = some (.slice a raws.length cap) := Hq.out.cell 2
  have j0 : w0.cell? ⟨w.heap.size + 1, 0, none⟩ = some (.int .i64 0) := Hj.out.cell 0
  have r0 : w0.cell? ⟨w.heap.size + 1 + 1, 0, none⟩ = some (.int .i64 0) := Hr.out.cell 0
  have fr0 : w0.frozen? ⟨w.heap.size + 1 + 1, 0, none⟩ = false := Hr.out.free 0
  have r1 : w0.cell? ⟨w.heap.size + 1 + 1, 1, none⟩ = some (.int .i64 0) := Hr.out.cell 1
  have fr1 : w0.frozen? ⟨w.heap.size + 1 + 1, 1, none⟩ = false := Hr.out.free 1
  have r2 : w0.cell? ⟨w.heap.size + 1 + 1, 2, none⟩ = some (.slice none 0 0) := Hr.out.cell 2
  have fr2 : w0.frozen? ⟨w.heap.size + 1 + 1, 2, none⟩ = false := Hr.out.free 2
  replace Hb := Lib.hid (bnext Hb.out hbn); clear hbn
  go_wp2_with fail
  refine (H1.out _).mono ?_
  rintro e w00 ⟨rfl, hbn⟩
  clear q0 q1 q2
  clear j0
  clear r0 fr0 r1 fr1 r2 fr2
  replace Hq := Lib.hid (Hq.out.below hbn)
  replace Hj := Lib.hid (Hj.out.below hbn)
  replace Hr := Lib.hid (Hr.out.below hbn)
  have q0 : w00.cell? ⟨w.heap.size, 0, none⟩ = some (.int .i64 V1) := Hq.out.cell 0
  have q1 : w00.cell? ⟨w.heap.size, 1, none⟩ = some (.int .i64 (D : Int)) := Hq.out.cell 1
  have q2 : w00.cell? ⟨w.heap.size, 2, none⟩ = some (.slice a raws.length cap) := Hq.out.cell 2
  have j0 : w00.cell? ⟨w.heap.size + 1, 0, none⟩ = some (.int .i64 0) := Hj.out.cell 0
  have r0 : w00.cell? ⟨w.heap.size + 1 + 1, 0, none⟩ = some (.int .i64 0) := Hr.out.cell 0
  have fr0 : w00.frozen? ⟨w.heap.size + 1 + 1, 0, none⟩ = false := Hr.out.free 0
  have r1 : w00.cell? ⟨w.heap.size + 1 + 1, 1, none⟩ = some (.int .i64 0) := Hr.out.cell 1
  have fr1 : w00.frozen? ⟨w.heap.size + 1 + 1, 1, none⟩ = false := Hr.out.free 1
  have r2 : w00.cell? ⟨w.heap.size + 1 + 1, 2, none⟩ = some (.slice none 0 0) := Hr.out.cell 2
  have fr2 : w00.frozen? ⟨w.heap.size + 1 + 1, 2, none⟩ = false := Hr.out.free 2
  replace Hb := Lib.hid (bnext Hb.out hbn); clear hbn
  go_wp2_with fail
  refine (Hbeg.out w00).mono ?_
  rintro e w1 ⟨bB, bm, rfl, ⟨hB, lB, hm, lm⟩, hbn⟩
  have lz1 := Hq.out.lt; have lz4 := Hr.out.lt; have lz2 := Hj.out.lt
  replace Hq := Lib.hid (Hq.out.below hbn); replace Hr := Lib.hid (Hr.out.below hbn); replace Hj := Lib.hid (Hj.out.below hbn)
  replace Hb := Lib.hid (bnext Hb.out hbn)
  clear q0 q1 q2 j0 r0 r1 r2 fr0 fr1 fr2 hbn
  have lB1 := hB.lt; have lm1 := hm.lt; have sz1 := Hb.out.size
  obtain ⟨W3, hW3⟩ : ∃ W3, w1.alloc (.cells #[.int .i64 (U : Int), .int .i64 (D : Int), .slice (some ⟨bB, 0, none⟩) N N, .map (some bm)] 64) = W3 := ⟨_, rfl⟩
  have hb3 : Below w1.heap.size w1 W3 := by rw [← hW3]; exact (Below.refl _ _).alloc (Nat.le_refl _) _
  have Hx : Hid (Blk W3 w1.heap.size 64 [.int .i64 (U : Int), .int .i64 (D : Int), .slice (some ⟨bB, 0, none⟩) N N, .map (some bm)]) := by rw [← hW3]; exact Blk.new _ _ _
  replace Hq := Lib.hid (Hq.out.below hb3); replace Hr := Lib.hid (Hr.out.below hb3); replace Hj := Lib.hid (Hj.out.below hb3)
  replace Hb := Lib.hid (bnext Hb.out hb3)
  have HB := Lib.hid (hB.below hb3); have Hm := Lib.hid (hm.below hb3)
  clear hB hm hb3
  have q0 : W3.cell? ⟨w.heap.size, 0, none⟩ = some (.int .i64 V1) := Hq.out.cell 0
  have q1 : W3.cell? ⟨w.heap.size, 1, none⟩ = some (.int .i64 (D : Int)) := Hq.out.cell 1
  have q2 : W3.cell? ⟨w.heap.size, 2, none⟩ = some (.slice a raws.length cap) := Hq.out.cell 2
  have j0 : W3.cell? ⟨w.heap.size + 1, 0, none⟩ = some (.int .i64 0) := Hj.out.cell 0
  have x0 : W3.cell? ⟨w1.heap.size, 0, none⟩ = some (.int .i64 (U : Int)) := Hx.out.cell 0
  have x1 : W3.cell? ⟨w1.heap.size, 1, none⟩ = some (.int .i64 (D : Int)) := Hx.out.cell 1
  have x2 : W3.cell? ⟨w1.heap.size, 2, none⟩ = some (.slice (some ⟨bB, 0, none⟩) N N) := Hx.out.cell 2
  have x3 : W3.cell? ⟨w1.heap.size, 3, none⟩ = some (.map (some bm)) := Hx.out.cell 3
  have sz3 : W3.heap.size = w1.heap.size + 1 := by rw [← hW3]; simp
  have Hsz3 := Lib.hid sz3; clear sz3
  obtain ⟨cs, hcs⟩ : ∃ cs, raws.map dval = cs := ⟨_, rfl⟩
  obtain ⟨P, hP⟩ : ∃ P : Nat → Puts, (fun k => faceR (R.getD k []) (cs.getD k 0)) = P := ⟨_, rfl⟩
  have hPl : ∀ k, k < R.length → (P k).length ≤ 1 := by
    intro k hk
    rw [← hP]
    exact faceR_len _ _
  have hcv : ∀ k (h : k < raws.length), cs.getD k 0 = dval raws[k] := fun k h => by rw [← hcs]; simp [h]
  have hPs : ∀ k, k < R.length → ∀ p ∈ P k, Sm B p.2 := by
    intro k hk p hp
    have hk2 : k < raws.length := by rw [← HRl.out]; exact hk
    rw [← hP] at hp
    dsimp only at hp
    unfold faceR at hp
    split at hp
    · rw [List.mem_singleton] at hp
      subst hp
      dsimp only
      rw [hcv k hk2]
      exact (Hfit.out _ (List.getElem_mem hk2)).2
    · cases hp
  have hPr : ∀ k, k < R.length → ∀ p ∈ P k, p.1 ∈ R' := by
    intro k hk p hp
    have hm := Hmem.out _ (List.getElem_mem hk)
    have e : R.getD k [] = R[k] := by simp [hk]
    rw [← hP] at hp
    dsimp only at hp
    unfold faceR at hp
    rw [e] at hp
    split at hp
    · rename_i h0
      rw [List.mem_singleton] at hp
      subst hp
      dsimp only
      obtain ⟨a0, rest, hx⟩ : ∃ a0 rest, R[k] = a0 :: rest := by
        cases h : R[k] with
        | nil => rw [h] at hm; simp at hm
        | cons a0 rest => exact ⟨_, _, rfl⟩
      rw [hx] at hm h0 ⊢
      have h00 : a0 = 0 := h0
      subst h00
      refine Hmem2.out _ ?_ ?_
      · have := hm.1; simp at this ⊢; omega
      · have := hm.2; simp at this ⊢; omega
    · cases hp
  have Htb : Hid (0 < w.heap.size) := HT.out.lt
  have hmade := smade_any (U : Int) (D : Int) bB N bm 39 #[.pointer (some ⟨w.heap.size + 1, 0, none⟩), .pointer (some ⟨w1.heap.size, 0, none⟩)] V1 (D : Int) a cap raws
    (fun k W => Blk W w1.heap.size 64 [.int .i64 (U : Int), .int .i64 (D : Int), .slice (some ⟨bB, 0, none⟩) N N, .map (some bm)] ∧ Blk W (w.heap.size + 1) 3 [.int .i64 0] ∧ Blk W bB 36 (dC (putAll f (List.replicate N 0) (putsTo P k))) ∧ Mp W bm N f ∧ Tab W) W3
    Hkl.out.symm (HA.out.below Hb.out) ?hab ?hac (enters_of Tryz.func39 (by kernel_rfl) rfl) ?hJb ?hcl ?hbB ⟨Hx.out, Hj.out, HB.out, Hm.out, HT.out.below Hb.out⟩
  rotate_right 5
  case hbB => have := Hsz3.out; omega
  case hab =>
    intro b o e
    have := Hal.out b o e; omega
  case hac =>
    intro b o e
    have := Hal.out b o e; have := Hb.out.size; omega
  case hJb =>
    rintro k W' W'' ⟨j1, j2, j4, j5, j6⟩ hch
    have hs := Hsz3.out
    have := Htb.out; have := Hb.out.size
    exact ⟨hch.blk j1 (by omega), hch.blk j2 (by omega), hch.blk j4 (by omega), hch.mp j5 (by omega), hch.tab j6 (by omega)⟩
  case hcl =>
    rintro k hk hk2 W' bM ⟨j1, j2, j4, j5, j6⟩ hM hbM
    have hs := Hsz3.out
    have hkR : k < R.length := by rw [HRl.out]; exact hk2
    have hm := Hmem.out _ (List.getElem_mem hkR)
    have ek : (keysL V1 (D : Int))[k] = (R[k]).map UInt8.ofNat := by
      have := Hkeys.out; simp only [this, List.getElem_map]
    have eP : P k = faceR R[k] (dval raws[k]) := by
      rw [← hP]
      dsimp only
      rw [hcv k hk2]
      simp [hkR]
    obtain ⟨a0, rest, hx⟩ : ∃ a0 rest, R[k] = a0 :: rest := by
      cases h : R[k] with
      | nil => rw [h] at hm; simp at hm
      | cons a0 rest => exact ⟨_, _, rfl⟩
    rw [hx] at hm eP
    rw [ek, hx, List.map_cons] at hM ⊢
    rw [List.length_cons]
    have hrl : rest.length = U + 1 := by have := hm.1; simp at this; omega
    have hrs : a0 + rest.sum = D := by have := hm.2; simpa using this
    have ha0 : a0 ≤ 255 := by omega
    obtain ⟨ds, hds⟩ : ∃ ds, putAll f (List.replicate N 0) (putsTo P k) = ds := ⟨_, rfl⟩
    have hdl : ds.length = N := by rw [← hds, putAll_length, List.length_replicate]
    rw [hds] at j4
    have nmB : bm ≠ bB := by
      rintro rfl
      obtain ⟨D, ⟨es, clock, hb, _⟩, _⟩ := j5
      have h := j4.symm.trans hb; simp at h
    have hpl := putsTo_len P 1 R.length k (by omega) hPl
    have hkb : k * 1 ≤ 512 := by have := Hlen.out; omega
    have hds2 : ∀ y ∈ ds, Sm (B + 512) y := by
      rw [← hds]
      intro y hy
      have := putAll_sm (B := B) f (List.replicate N 0) (putsTo P k) (fun d hd => by rw [List.eq_of_mem_replicate hd]; exact Sm.zero _) (putsTo_all P R.length k (by omega) hPs) y hy
      exact this.mono (by omega)
    have hfx := Hfit.out _ (List.getElem_mem hk2)
    have hh := face1_any (U : Int) (D : Int) bB bm bM w1.heap.size (w.heap.size + 1) N (B + 512) f ds (UInt8.ofNat a0) (rest.map UInt8.ofNat) raws[k].1 raws[k].2.1 raws[k].2.2 W' (by rw [hdl]; exact j1) j2 j4 j5 hM (by rw [List.length_map]; omega) (by rw [List.length_map]; omega)
      (fun h0 => by
        have h00 : a0 = 0 := by
          have := congrArg UInt8.toNat h0
          simp at this; omega
        have hmm : rest ∈ R' := Hmem2.out _ hrl (by omega)
        obtain ⟨q, hq, _, e2⟩ := Hplace.out _ hmm
        rw [e2, hdl, ← HRl'.out]; exact hq) (hfx.mono (by omega)) hds2 (by omega) j6 (by have := Htb.out; have := Hb.out.size; omega) (by have := Htb.out; omega)
    refine hh.mono ?_
    rintro e' w' ⟨he, hB', hch⟩
    refine ⟨he, ⟨hch.blk j1 (by omega), hch.blk j2 (by omega), ?_, hch.mp j5 (by omega), hch.tab j6 (by have := Htb.out; have := Hb.out.size; omega)⟩, hch⟩
    rw [putsTo_succ, putAll_append, hds, eP, face_put _ _ _ _ _ ha0]
    exact hB'
  have Hmade := Lib.hid hmade; clear hmade
  go_wp2_with fail
  refine Hmade.out.mono ?_
  rintro e w4 ⟨rfl, ⟨_, _, hB4, _, _⟩, hch⟩
  have hs := Hsz3.out
  have hr4 : Blk w4 (w.heap.size + 1 + 1) 24 [.int .i64 0, .int .i64 0, .slice none 0 0] := hch.blk Hr.out (by omega)
  have r0 : w4.cell? ⟨w.heap.size + 1 + 1, 0, none⟩ = some (.int .i64 0) := hr4.cell 0
  have r1 : w4.cell? ⟨w.heap.size + 1 + 1, 1, none⟩ = some (.int .i64 0) := hr4.cell 1
  have r2 : w4.cell? ⟨w.heap.size + 1 + 1, 2, none⟩ = some (.slice none 0 0) := hr4.cell 2
  have fr0 := hr4.free 0; have fr1 := hr4.free 1; have fr2 := hr4.free 2
  have hfin : putAll f (List.replicate N 0) (putsTo P (keysL V1 (D : Int)).length) = colL R' (faceP R cs) := by
    rw [Hkl.out, ← HRl.out]
    have e : putsTo P R.length = faceP R cs := by rw [← hP]; rfl
    rw [e, ← HRl'.out]
    exact putAll_zero R' Hnd.out f Hplace.out _ (by rw [← e]; exact putsTo_all P R.length R.length (Nat.le_refl _) hPr)
  rw [hfin] at hB4
  have HB4 := Lib.hid hB4; have Hch := Lib.hid hch
  have Hbz := Lib.hid (Hb.out.trans (Hch.out.below (by have := Hb.out.size; omega) (fun b e => by omega)))
  clear hB4 hch hr4 q0 q1 q2 j0 x0 x1 x2 x3 hs
  go_wp2
  refine bodyPost_ret (v := .tuple #[.agg #[.int .i64 (U : Int), .int .i64 (D : Int), .slice (some ⟨bB, 0, none⟩) N N], .int .i64 0]) (by simp [results, Tryz.results17, go_sem, r0, r1, r2]) rfl ⟨bB, rfl, ?_, by omega, ?_⟩
  · have := ((HB4.out.set_other ⟨w.heap.size + 1 + 1, 0, none⟩ (by dsimp only; omega) (.int .i64 (U : Int))).set_other ⟨w.heap.size + 1 + 1, 1, none⟩ (by dsimp only; omega) (.int .i64 (D : Int))).set_other ⟨w.heap.size + 1 + 1, 2, none⟩ (by dsimp only; omega) (.slice (some ⟨bB, 0, none⟩) N N)
    rw [hcs]; exact this
  · exact (((Hbz.out.setCell (by dsimp only; omega) _).setCell (by dsimp only; omega) _).setCell (by dsimp only; omega) _)
end Go.Proofs.YtidjljldhdckiaaGreatDoor

/- The chapter's example (a form of two variables, by 0, 4, 8): halved, lifted, its face, its corner: closed facts. No program here. -/
namespace Go.Proofs.YtidjljldhdckiaaGreatDoor

theorem aw_half12 : halfL 2 1 1 2 ([0, 4, 8].map dI) = [0, 4, 6].map dI := by decide +kernel
theorem aw_half21 : halfL 2 1 2 1 ([0, 4, 8].map dI) = [0, 6, 8].map dI := by decide +kernel
theorem aw_lift : liftL 2 1 ([0, 4, 8].map dI) = [0, 4, 8, 4, 12, 8].map dI := by decide +kernel
theorem aw_face : faceL 1 1 ([0, 4, 8].map dI) = [4, 8].map dI := by decide +kernel
theorem aw_corner : cornTo 2 1 (rowsL 3 1) ([0, 4, 8].map dI) 3 = dI 8 := by decide +kernel
theorem cnt_21 : cnt 2 1 = 3 := by simp [cnt]
theorem cnt_22 : cnt 2 2 = 6 := by simp [cnt]
theorem cnt_11 : cnt 1 1 = 2 := by simp [cnt]
theorem dI_sm (n : Nat) (h : n < 4096) : Sm 12 (dI n) := by
  refine ⟨(n : Int) * 2 ^ 12, ?_, ?_⟩
  · unfold dI
    rw [← owp_shift (n : Int) 12 0]; rfl
  · have : ((n : Int) * 2 ^ 12).natAbs = n * 4096 := by
      rw [Int.natAbs_mul]; rfl
    rw [this]
    have : (2 : Nat) ^ (2 * 12) = 16777216 := by rfl
    omega
theorem aw_fit : ∀ x ∈ (([0, 4, 8].map dI).map canon), Fit 12 x := by
  intro x hx
  simp only [List.map_cons, List.map_nil, List.mem_cons, List.not_mem_nil, or_false] at hx
  rcases hx with rfl | rfl | rfl <;> exact (dI_sm _ (by decide)).fit (by decide)
theorem chk_21 : chk 2 1 3 = 0 := by unfold chk; simp [show (2 : Int).toNat = 2 from rfl, show (1 : Int).toNat = 1 from rfl, cnt_21]
end Go.Proofs.YtidjljldhdckiaaGreatDoor

/- The chapter's example: what each call answers, in whatever world. -/
namespace Go.Proofs.YtidjljldhdckiaaGreatDoor
open Go.RowKit

/-- The cells of a slice of whole numbers. -/
abbrev aw (ns : List Nat) : List Value := dC (ns.map dI)

theorem aw_of (V D : Int) (b : Nat) (ns : List Nat) (cs : List Value) (hcs : (ns.map fun (n : Nat) => Value.int .i64 (n : Int)) = cs) (N : Nat) (hN : ns.length = N) (hl : N ≤ 1000) (hn : ∀ n ∈ ns, n ≤ 1000000) (w : World) (h : Blk w b 2 cs) :
    Calls Tryz.prog 16 #[.int .i64 V, .int .i64 D, .slice (some ⟨b, 0, none⟩) N N] w fun e w' => ∃ a2 cap2, e = .returned (.agg #[.int .i64 V, .int .i64 D, .slice a2 N cap2]) ∧ At w' a2 (aw ns) ∧ Below w.heap.size w w' :=
  of_law V D _ ns N N w hN hl hn (by rw [hcs]; exact At.of_blk h)

theorem aw_at {w : World} {a : Option Addr} {ns : List Nat} (h : At w a (aw ns)) : At w a (((ns.map dI).map canon).flatMap numC) := by rw [← dC_raws]; exact h

theorem aw_split (a : Option Addr) (cap : Nat) (w : World) (ha : At w a (aw [0, 4, 8])) (hT : Tab w) :
    Calls Tryz.prog 7 #[.agg #[.int .i64 2, .int .i64 1, .slice a 3 cap], .int .i64 1, .int .i64 2] w fun e w' => ∃ r s,
      e = .returned (.tuple #[.agg #[.int .i64 2, .int .i64 1, .slice (some ⟨r, 0, none⟩) 3 3], .agg #[.int .i64 2, .int .i64 1, .slice (some ⟨s, 0, none⟩) 3 3], .int .i64 0]) ∧
        At w' (some ⟨r, 0, none⟩) (aw [0, 4, 6]) ∧ At w' (some ⟨s, 0, none⟩) (aw [0, 6, 8]) ∧ Below w.heap.size w w' := by
  have h := split_ok 2 1 a cap (([0, 4, 8].map dI).map canon) 1 2 12 w chk_21 (by decide) (by decide) (by decide) aw_fit (by decide) (aw_at ha) hT
  rw [dval_raws, aw_half12, aw_half21] at h
  exact h.mono (fun e w' ⟨r, s, he, hr, hs, _, _, hb⟩ => ⟨r, s, he, At.of_blk hr, At.of_blk hs, hb⟩)

theorem aw_bad (a : Option Addr) (cap : Nat) (j : Int) (hj : j = 0 ∨ j = 3) (w : World) :
    Calls Tryz.prog 7 #[.agg #[.int .i64 2, .int .i64 1, .slice a 3 cap], .int .i64 0, .int .i64 j] w fun e w' => e = .returned (.tuple #[sf0, sf0, .int .i64 1]) ∧ Below w.heap.size w w' :=
  split_arg 2 1 a 3 cap 0 j w chk_21 (by omega)

theorem aw_lifts (a : Option Addr) (cap : Nat) (w : World) (ha : At w a (aw [0, 4, 8])) (hT : Tab w) :
    Calls Tryz.prog 8 #[.agg #[.int .i64 2, .int .i64 1, .slice a 3 cap]] w fun e w' => ∃ r,
      e = .returned (.tuple #[.agg #[.int .i64 2, .int .i64 2, .slice (some ⟨r, 0, none⟩) 6 6], .int .i64 0]) ∧ At w' (some ⟨r, 0, none⟩) (aw [0, 4, 8, 4, 12, 8]) ∧ Below w.heap.size w w' := by
  have h := lift_ok 2 1 a cap (([0, 4, 8].map dI).map canon) 12 w chk_21 (by decide) (by rw [show cnt 2 (1 + 1) = 6 from cnt_22]; decide) aw_fit (by decide) (aw_at ha) hT
  rw [dval_raws, aw_lift, show cnt 2 (1 + 1) = 6 from cnt_22] at h
  exact h.mono (fun e w' ⟨r, he, hr, _, hb⟩ => ⟨r, he, At.of_blk hr, hb⟩)

theorem aw_faces (a : Option Addr) (cap : Nat) (w : World) (ha : At w a (aw [0, 4, 8])) (hT : Tab w) :
    Calls Tryz.prog 17 #[.agg #[.int .i64 2, .int .i64 1, .slice a 3 cap], .int .i64 0] w fun e w' => ∃ r,
      e = .returned (.tuple #[.agg #[.int .i64 1, .int .i64 1, .slice (some ⟨r, 0, none⟩) 2 2], .int .i64 0]) ∧ At w' (some ⟨r, 0, none⟩) (aw [4, 8]) ∧ Below w.heap.size w w' := by
  have h := face_ok 1 1 a cap (([0, 4, 8].map dI).map canon) 12 w chk_21 (by decide) (by rw [cnt_11]; decide) aw_fit (by decide) (aw_at ha) hT
  rw [dval_raws, aw_face, cnt_11] at h
  exact h.mono (fun e w' ⟨r, he, hr, _, hb⟩ => ⟨r, he, At.of_blk hr, hb⟩)

theorem aw_corners (a : Option Addr) (cap : Nat) (w : World) (ha : At w a (aw [0, 4, 8])) (hT : Tab w) :
    Calls Tryz.prog 10 #[.agg #[.int .i64 2, .int .i64 1, .slice a 3 cap], .int .i64 2] w fun e w' => e = .returned (.tuple #[numV (dI 8), .int .i64 0]) ∧ Below w.heap.size w w' := by
  have h := corner_ok 2 1 a cap (([0, 4, 8].map dI).map canon) 2 w chk_21 (by decide) (fun x hx => (aw_fit x hx).1) (aw_at ha) hT
  rw [dval_raws] at h
  have e : cornTo 2 1 (rowsL (2 + 1) 1) ([0, 4, 8].map dI) (([0, 4, 8].map dI).map canon).length = dI 8 := aw_corner
  rw [e] at h
  exact h

theorem aw_num (w : World) : Calls Tryz.prog 18 #[.int .i64 8] w fun e w' => e = .returned (numV (dI 8)) ∧ Below w.heap.size w w' := num_any 8 w (by decide)

theorem aw_same (ns : List Nat) (V D : Int) (a a' : Option Addr) (N cap cap' : Nat) (w : World) (hN : ns.length = N) (hl : N ≤ 1000) (ha : At w a (aw ns)) (ha' : At w a' (aw ns)) :
    Calls Tryz.prog 9 #[.agg #[.int .i64 V, .int .i64 D, .slice a N cap], .agg #[.int .i64 V, .int .i64 D, .slice a' N cap']] w fun e w' => e = .returned (.bool true) ∧ Below w.heap.size w w' :=
  same_true V D a a' N cap cap' _ w (by simp only [List.length_map]; exact hN) (by omega) (aw_at ha) (aw_at ha')
end Go.Proofs.YtidjljldhdckiaaGreatDoor
