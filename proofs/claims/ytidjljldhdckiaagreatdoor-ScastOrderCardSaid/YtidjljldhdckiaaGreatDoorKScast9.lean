/- Package scast: Corner. -/
import Derived.Test.YtidjljldhdckiaaGreatDoorKSame
namespace Go.Proofs.YtidjljldhdckiaaGreatDoor
open Go.RowKit
attribute [local go_sem ↓] Go.wp_at_zero Go.wp_at_succ

theorem Chg.set {Y : Nat → Prop} {W W' : World} (h : Chg Y W W') {a : Addr} (hy : Y a.block) (v : Value) : Chg Y W (W'.setCell a v) :=
  h.trans (Chg.of_grown (Y := Y) (grownBy_set (w := W') (a := a) a.block rfl v) (fun _ e => by cases e; exact hy)) (fun _ h => .inl h)
theorem Chg.drew {Y : Nat → Prop} {W W' : World} (h : Chg Y W W') : Chg Y W W'.drew := ⟨h.os, h.tape, h.output, h.size, h.block⟩
theorem Chg.below' {Y : Nat → Prop} {A B C : World} (h : Chg Y A B) (k : Below B.heap.size B C) : Chg Y A C := h.trans (Chg.of_below (Y := Y) k) (fun _ h => .inl h)

theorem ex_index (x : List Nat) (j : Nat) (hj : j < x.length) (hx : x.getD j 0 ≤ 255) (w : World) :
    (Instr.index 9 (.string (bs (x.map UInt8.ofNat))) (.int .i64 (j : Int))).run Tryz.prog w = .ok (.int .u8 (x.getD j 0 : Int)) w := by
  rw [idx_bs (x.map UInt8.ofNat) (j : Int) j (by simpa using hj) rfl w]
  have e : ((x.map UInt8.ofNat)[j]'(by simpa using hj)).toNat = x.getD j 0 := by
    have e0 : x[j] = x.getD j 0 := by simp [hj]
    rw [List.getElem_map, e0]
    generalize x.getD j 0 = z at *
    simp; omega
  rw [e]

set_option maxHeartbeats 400000 in
set_option maxRecDepth 100000 in
theorem corner_ok (V D : Nat) (a : Option Addr) (cap : Nat) (raws : List Raw) (j : Nat) (w : World) (hc : chk V D raws.length = 0) (hj : j ≤ V) (hok : ∀ x ∈ raws, Ok x) (ha : At w a (raws.flatMap numC)) (hT : Tab w) :
    Calls Tryz.prog 10 #[.agg #[.int .i64 (V : Int), .int .i64 (D : Int), .slice a raws.length cap], .int .i64 (j : Int)] w fun e w' =>
      e = .returned (.tuple #[numV (cornTo j D (rowsL (V + 1) D) (raws.map dval) raws.length), .int .i64 0]) ∧ Below w.heap.size w w' := by
  obtain ⟨c1, c2, c3, c4, c5, c6⟩ := chk_ok hc
  simp only [Int.toNat_natCast] at c5
  have hkeys := keysL_rows V D (by omega) (by omega) (by omega) (by omega)
  have hPr := products_any (V : Int) (D : Int)
  have ePr : (prodsL (V : Int) (D : Int)).map (fun x => Value.string (ex x)) = (keysL (V : Int) (D : Int)).map (fun l => Value.string (bs l)) := by unfold keysL; rw [List.map_map]; rfl
  have eLn : (prodsL (V : Int) (D : Int)).length = raws.length := by
    have : (keysL (V : Int) (D : Int)).length = raws.length := by rw [hkeys, List.length_map, rowsL_count, c5]
    rw [← this]; unfold keysL; rw [List.length_map]
  rw [ePr, eLn, hkeys] at hPr
  have hRl : (rowsL (V + 1) D).length = raws.length := by rw [rowsL_count, c5]
  have hmem : ∀ x ∈ rowsL (V + 1) D, x.length = V + 1 ∧ x.sum = D := fun x hx => (mem_rowsL V D x).1 hx
  generalize rowsL (V + 1) D = R at *
  have h1 := has_any V D a raws.length cap j
  rw [decide_eq_true (by omega)] at h1
  have H1 := Lib.hid h1; have HT := Lib.hid hT; have Hc := Lib.hid hc; have HPr := Lib.hid hPr; have Hmem := Lib.hid hmem; have HRl := Lib.hid hRl; have Hok := Lib.hid hok; have HA := Lib.hid ha
  clear c5 hc hPr hmem hRl hok ha hT h1 hkeys ePr eLn
  obtain ⟨cs, hcs⟩ : ∃ cs, raws.map dval = cs := ⟨_, rfl⟩
  have Hcs := Lib.hid hcs
  rw [hcs]
  clear hcs
  obtain ⟨W, hW_W⟩ : ∃ W, ((w.alloc (.cells #[.int .i64 (V : Int), .int .i64 (D : Int), .slice a raws.length cap] 24)).alloc (.cells #[.bool false, .string ⟨#[]⟩, .int .i64 0] 36)) = W := ⟨_, rfl⟩
  have Hb : Hid (Below w.heap.size w W) := by rw [← hW_W]; exact (((Below.refl _ _).alloc (Nat.le_refl _) _).alloc (by simp <;> omega) _)
  have Hf : Hid (Blk W (w.heap.size) 24 [.int .i64 (V : Int), .int .i64 (D : Int), .slice a raws.length cap]) := by rw [← hW_W]; exact (Blk.newAt _ _ _ (by simp)).alloc _
  have Hr : Hid (Blk W (w.heap.size + 1) 36 [.bool false, .string ⟨#[]⟩, .int .i64 0]) := by rw [← hW_W]; exact Blk.newAt _ _ _ (by simp)
  have f0 : W.cell? ⟨w.heap.size, 0, none⟩ = some (.int .i64 (V : Int)) := Hf.out.cell 0
  have f1 : W.cell? ⟨w.heap.size, 1, none⟩ = some (.int .i64 (D : Int)) := Hf.out.cell 1
  have f2 : W.cell? ⟨w.heap.size, 2, none⟩ = some (.slice a raws.length cap) := Hf.out.cell 2
  have r0 : W.cell? ⟨w.heap.size + 1, 0, none⟩ = some (.bool false) := Hr.out.cell 0
  have fr0 : W.frozen? ⟨w.heap.size + 1, 0, none⟩ = false := Hr.out.free 0
  have r1 : W.cell? ⟨w.heap.size + 1, 1, none⟩ = some (.string ⟨#[]⟩) := Hr.out.cell 1
  have fr1 : W.frozen? ⟨w.heap.size + 1, 1, none⟩ = false := Hr.out.free 1
  have r2 : W.cell? ⟨w.heap.size + 1, 2, none⟩ = some (.int .i64 0) := Hr.out.cell 2
  have fr2 : W.frozen? ⟨w.heap.size + 1, 2, none⟩ = false := Hr.out.free 2
  go_enter Tryz.func10, Tryz.ntmps10

  go_wp2_with fail
  refine (check_any V D a raws.length cap 0 Hc.out _).mono ?_
  rintro e w1 ⟨rfl, hbn⟩
  clear f0 f1 f2
  clear r0 fr0 r1 fr1 r2 fr2
  replace Hf := Lib.hid (Hf.out.below hbn)
  replace Hr := Lib.hid (Hr.out.below hbn)
  have f0 : w1.cell? ⟨w.heap.size, 0, none⟩ = some (.int .i64 (V : Int)) := Hf.out.cell 0
  have f1 : w1.cell? ⟨w.heap.size, 1, none⟩ = some (.int .i64 (D : Int)) := Hf.out.cell 1
  have f2 : w1.cell? ⟨w.heap.size, 2, none⟩ = some (.slice a raws.length cap) := Hf.out.cell 2
  have r0 : w1.cell? ⟨w.heap.size + 1, 0, none⟩ = some (.bool false) := Hr.out.cell 0
  have fr0 : w1.frozen? ⟨w.heap.size + 1, 0, none⟩ = false := Hr.out.free 0
  have r1 : w1.cell? ⟨w.heap.size + 1, 1, none⟩ = some (.string ⟨#[]⟩) := Hr.out.cell 1
  have fr1 : w1.frozen? ⟨w.heap.size + 1, 1, none⟩ = false := Hr.out.free 1
  have r2 : w1.cell? ⟨w.heap.size + 1, 2, none⟩ = some (.int .i64 0) := Hr.out.cell 2
  have fr2 : w1.frozen? ⟨w.heap.size + 1, 2, none⟩ = false := Hr.out.free 2
  replace Hb := Lib.hid (bnext Hb.out hbn); clear hbn
  go_wp2_with fail
  refine (H1.out _).mono ?_
  rintro e w2 ⟨rfl, hbn⟩
  clear f0 f1 f2
  clear r0 fr0 r1 fr1 r2 fr2
  replace Hf := Lib.hid (Hf.out.below hbn)
  replace Hr := Lib.hid (Hr.out.below hbn)
  have f0 : w2.cell? ⟨w.heap.size, 0, none⟩ = some (.int .i64 (V : Int)) := Hf.out.cell 0
  have f1 : w2.cell? ⟨w.heap.size, 1, none⟩ = some (.int .i64 (D : Int)) := Hf.out.cell 1
  have f2 : w2.cell? ⟨w.heap.size, 2, none⟩ = some (.slice a raws.length cap) := Hf.out.cell 2
  have r0 : w2.cell? ⟨w.heap.size + 1, 0, none⟩ = some (.bool false) := Hr.out.cell 0
  have fr0 : w2.frozen? ⟨w.heap.size + 1, 0, none⟩ = false := Hr.out.free 0
  have r1 : w2.cell? ⟨w.heap.size + 1, 1, none⟩ = some (.string ⟨#[]⟩) := Hr.out.cell 1
  have fr1 : w2.frozen? ⟨w.heap.size + 1, 1, none⟩ = false := Hr.out.free 1
  have r2 : w2.cell? ⟨w.heap.size + 1, 2, none⟩ = some (.int .i64 0) := Hr.out.cell 2
  have fr2 : w2.frozen? ⟨w.heap.size + 1, 2, none⟩ = false := Hr.out.free 2
  replace Hb := Lib.hid (bnext Hb.out hbn); clear hbn
  have lz_f_w3 : w.heap.size < w2.heap.size := Hf.out.lt
  have lz_r_w3 : w.heap.size + 1 < w2.heap.size := Hr.out.lt
  obtain ⟨w3, hW_w3⟩ : ∃ w3, (w2.alloc (.cells #[.bool false, .string ⟨#[]⟩, .int .i64 0] 36)) = w3 := ⟨_, rfl⟩
  have hbn : Below w2.heap.size w2 w3 := by rw [← hW_w3]; exact ((Below.refl _ _).alloc (Nat.le_refl _) _)
  clear f0 f1 f2
  replace Hf := Lib.hid (Hf.out.below hbn)
  clear r0 fr0 r1 fr1 r2 fr2
  replace Hr := Lib.hid (Hr.out.below hbn)
  have Ho : Hid (Blk w3 (w2.heap.size) 36 [.bool false, .string ⟨#[]⟩, .int .i64 0]) := by rw [← hW_w3]; exact Blk.newAt _ _ _ (by simp)
  have f0 : w3.cell? ⟨w.heap.size, 0, none⟩ = some (.int .i64 (V : Int)) := Hf.out.cell 0
  have f1 : w3.cell? ⟨w.heap.size, 1, none⟩ = some (.int .i64 (D : Int)) := Hf.out.cell 1
  have f2 : w3.cell? ⟨w.heap.size, 2, none⟩ = some (.slice a raws.length cap) := Hf.out.cell 2
  have r0 : w3.cell? ⟨w.heap.size + 1, 0, none⟩ = some (.bool false) := Hr.out.cell 0
  have fr0 : w3.frozen? ⟨w.heap.size + 1, 0, none⟩ = false := Hr.out.free 0
  have r1 : w3.cell? ⟨w.heap.size + 1, 1, none⟩ = some (.string ⟨#[]⟩) := Hr.out.cell 1
  have fr1 : w3.frozen? ⟨w.heap.size + 1, 1, none⟩ = false := Hr.out.free 1
  have r2 : w3.cell? ⟨w.heap.size + 1, 2, none⟩ = some (.int .i64 0) := Hr.out.cell 2
  have fr2 : w3.frozen? ⟨w.heap.size + 1, 2, none⟩ = false := Hr.out.free 2
  have o0 : w3.cell? ⟨w2.heap.size, 0, none⟩ = some (.bool false) := Ho.out.cell 0
  have fo0 : w3.frozen? ⟨w2.heap.size, 0, none⟩ = false := Ho.out.free 0
  have o1 : w3.cell? ⟨w2.heap.size, 1, none⟩ = some (.string ⟨#[]⟩) := Ho.out.cell 1
  have fo1 : w3.frozen? ⟨w2.heap.size, 1, none⟩ = false := Ho.out.free 1
  have o2 : w3.cell? ⟨w2.heap.size, 2, none⟩ = some (.int .i64 0) := Ho.out.cell 2
  have fo2 : w3.frozen? ⟨w2.heap.size, 2, none⟩ = false := Ho.out.free 2
  replace Hb := Lib.hid (bnext Hb.out hbn); clear hbn
  go_wp2_with fail
  clear f0 f1 f2
  clear r0 fr0 r1 fr1 r2 fr2
  clear o0 fo0 o1 fo1 o2 fo2
  first | refine wp_world (fun v3 => Blk v3 (w.heap.size) 24 [.int .i64 (V : Int), .int .i64 (D : Int), .slice a raws.length cap] ∧ Blk v3 (w.heap.size + 1) 36 [.bool false, .string ⟨#[]⟩, .int .i64 0] ∧ Blk v3 (w2.heap.size) 36 [.bool false, .string ⟨#[]⟩, .int .i64 0] ∧ Below w.heap.size w v3) ⟨(((Hf.out.set_other ⟨w2.heap.size, 0, none⟩ (by first | (dsimp only; omega) | (show _ ≠ _; omega) | (simp <;> omega)) _).set_other ⟨w2.heap.size, 1, none⟩ (by first | (dsimp only; omega) | (show _ ≠ _; omega) | (simp <;> omega)) _).set_other ⟨w2.heap.size, 2, none⟩ (by first | (dsimp only; omega) | (show _ ≠ _; omega) | (simp <;> omega)) _), (((Hr.out.set_other ⟨w2.heap.size, 0, none⟩ (by first | (dsimp only; omega) | (show _ ≠ _; omega) | (simp <;> omega)) _).set_other ⟨w2.heap.size, 1, none⟩ (by first | (dsimp only; omega) | (show _ ≠ _; omega) | (simp <;> omega)) _).set_other ⟨w2.heap.size, 2, none⟩ (by first | (dsimp only; omega) | (show _ ≠ _; omega) | (simp <;> omega)) _), (((Ho.out.set 0 _).set 1 _).set 2 _), (((Hb.out.setCell (p := ⟨w2.heap.size, 0, none⟩) (by have := Hb.out.size; first | (dsimp only; omega) | (show _ ≤ _; omega) | (simp <;> omega)) _).setCell (p := ⟨w2.heap.size, 1, none⟩) (by have := Hb.out.size; first | (dsimp only; omega) | (show _ ≤ _; omega) | (simp <;> omega)) _).setCell (p := ⟨w2.heap.size, 2, none⟩) (by have := Hb.out.size; first | (dsimp only; omega) | (show _ ≤ _; omega) | (simp <;> omega)) _)⟩ ?_ | refine calls_world (fun v3 => Blk v3 (w.heap.size) 24 [.int .i64 (V : Int), .int .i64 (D : Int), .slice a raws.length cap] ∧ Blk v3 (w.heap.size + 1) 36 [.bool false, .string ⟨#[]⟩, .int .i64 0] ∧ Blk v3 (w2.heap.size) 36 [.bool false, .string ⟨#[]⟩, .int .i64 0] ∧ Below w.heap.size w v3) ⟨(((Hf.out.set_other ⟨w2.heap.size, 0, none⟩ (by first | (dsimp only; omega) | (show _ ≠ _; omega) | (simp <;> omega)) _).set_other ⟨w2.heap.size, 1, none⟩ (by first | (dsimp only; omega) | (show _ ≠ _; omega) | (simp <;> omega)) _).set_other ⟨w2.heap.size, 2, none⟩ (by first | (dsimp only; omega) | (show _ ≠ _; omega) | (simp <;> omega)) _), (((Hr.out.set_other ⟨w2.heap.size, 0, none⟩ (by first | (dsimp only; omega) | (show _ ≠ _; omega) | (simp <;> omega)) _).set_other ⟨w2.heap.size, 1, none⟩ (by first | (dsimp only; omega) | (show _ ≠ _; omega) | (simp <;> omega)) _).set_other ⟨w2.heap.size, 2, none⟩ (by first | (dsimp only; omega) | (show _ ≠ _; omega) | (simp <;> omega)) _), (((Ho.out.set 0 _).set 1 _).set 2 _), (((Hb.out.setCell (p := ⟨w2.heap.size, 0, none⟩) (by have := Hb.out.size; first | (dsimp only; omega) | (show _ ≤ _; omega) | (simp <;> omega)) _).setCell (p := ⟨w2.heap.size, 1, none⟩) (by have := Hb.out.size; first | (dsimp only; omega) | (show _ ≤ _; omega) | (simp <;> omega)) _).setCell (p := ⟨w2.heap.size, 2, none⟩) (by have := Hb.out.size; first | (dsimp only; omega) | (show _ ≤ _; omega) | (simp <;> omega)) _)⟩ ?_
  rintro v3 ⟨qf, qr, qo, hbn⟩
  replace Hf := Lib.hid qf; clear qf
  replace Hr := Lib.hid qr; clear qr
  replace Ho := Lib.hid qo; clear qo
  have f0 : v3.cell? ⟨w.heap.size, 0, none⟩ = some (.int .i64 (V : Int)) := Hf.out.cell 0
  have f1 : v3.cell? ⟨w.heap.size, 1, none⟩ = some (.int .i64 (D : Int)) := Hf.out.cell 1
  have f2 : v3.cell? ⟨w.heap.size, 2, none⟩ = some (.slice a raws.length cap) := Hf.out.cell 2
  have r0 : v3.cell? ⟨w.heap.size + 1, 0, none⟩ = some (.bool false) := Hr.out.cell 0
  have fr0 : v3.frozen? ⟨w.heap.size + 1, 0, none⟩ = false := Hr.out.free 0
  have r1 : v3.cell? ⟨w.heap.size + 1, 1, none⟩ = some (.string ⟨#[]⟩) := Hr.out.cell 1
  have fr1 : v3.frozen? ⟨w.heap.size + 1, 1, none⟩ = false := Hr.out.free 1
  have r2 : v3.cell? ⟨w.heap.size + 1, 2, none⟩ = some (.int .i64 0) := Hr.out.cell 2
  have fr2 : v3.frozen? ⟨w.heap.size + 1, 2, none⟩ = false := Hr.out.free 2
  have o0 : v3.cell? ⟨w2.heap.size, 0, none⟩ = some (.bool false) := Ho.out.cell 0
  have fo0 : v3.frozen? ⟨w2.heap.size, 0, none⟩ = false := Ho.out.free 0
  have o1 : v3.cell? ⟨w2.heap.size, 1, none⟩ = some (.string ⟨#[]⟩) := Ho.out.cell 1
  have fo1 : v3.frozen? ⟨w2.heap.size, 1, none⟩ = false := Ho.out.free 1
  have o2 : v3.cell? ⟨w2.heap.size, 2, none⟩ = some (.int .i64 0) := Ho.out.cell 2
  have fo2 : v3.frozen? ⟨w2.heap.size, 2, none⟩ = false := Ho.out.free 2
  replace Hb := Lib.hid hbn; clear hbn
  refine (HPr.out _).mono ?_
  rintro e w4 ⟨a1, cap1, rfl, hat, hba, hbn⟩
  have lf := Hf.out.lt; have lr := Hr.out.lt; have lo := Ho.out.lt
  replace Hf := Lib.hid (Hf.out.below hbn); replace Hr := Lib.hid (Hr.out.below hbn); replace Ho := Lib.hid (Ho.out.below hbn)
  replace Hb := Lib.hid (bnext Hb.out hbn)
  have sz3 : v3.heap.size ≤ w4.heap.size := hbn.size
  have Hat := Lib.hid hat; have Hba := Lib.hid hba; have szv : w2.heap.size < v3.heap.size := lo
  clear f0 f1 f2 r0 r1 r2 fr0 fr1 fr2 o0 o1 o2 fo0 fo1 fo2 hbn hat hba
  go_wp2_with fail
  go_loopw [8, 9, 28] (fun _ _ i wr => ∃ k : Nat, k ≤ raws.length ∧ i = .int .i64 (k : Int) ∧ Blk wr w.heap.size 24 [.int .i64 (V : Int), .int .i64 (D : Int), .slice a raws.length cap] ∧ Blk wr (w.heap.size + 1) 36 [.bool false, .string ⟨#[]⟩, .int .i64 0] ∧ Blk wr w2.heap.size 36 (numC (canon (cornTo j D R cs k))) ∧ Chg (fun b => b = w2.heap.size) w4 wr) (fun _ _ i _ => raws.length - (intOf i).toNat)
  case atStart => exact ⟨0, Nat.zero_le _, rfl, Hf.out, Hr.out, Ho.out, Chg.refl _ _⟩
  case round =>
    obtain ⟨k, hk, rfl, pF, pR, pO, pb⟩ := hrel
    have HB := Lib.hid (Hb.out.trans (pb.below (by omega) (fun b e => by omega)))
    by_cases hlt : k < raws.length
    · have hltR : k < R.length := by rw [HRl.out]; exact hlt
      obtain ⟨x, hx⟩ : ∃ x, R[k] = x := ⟨_, rfl⟩
      have hxm : x.length = V + 1 ∧ x.sum = D := by rw [← hx]; exact Hmem.out _ (List.getElem_mem hltR)
      obtain ⟨z, hz⟩ : ∃ z, x.getD j 0 = z := ⟨_, rfl⟩
      have hzl : z ≤ D := by rw [← hz, ← hxm.2]; exact getD_le_sum x j
      have hidx := ex_index x j (by omega) (by omega)
      rw [hz] at hidx
      have hat3 : At wr a1 ((R.map fun x => x.map UInt8.ofNat).flatMap fun l => [Value.string (bs l)]) := by rw [flat_one]; exact Hat.out.chg pb (fun b o e h => by have := Hba.out b o e; omega)
      obtain ⟨b1, o1, hab1, hcs1⟩ := hat3.elem (f := fun l => [Value.string (bs l)]) (sz := 1) (fun _ => rfl) (by decide) k (by simpa using hltR)
      have hc0 : wr.cell? ⟨b1, o1 + k, none⟩ = some (.string (bs (x.map UInt8.ofNat))) := by rw [← hx]; simpa using hcs1 0 (by decide)
      have hix := ixs (t := 69) (e := 9) (sz := 1) Tryz.underlying69 (by kernel_rfl) raws.length cap1 k (k : Int) hab1 hlt rfl
      rw [Nat.mul_one] at hix
      clear hat3 hcs1 hab1
      have f1 : wr.cell? ⟨w.heap.size, 1, none⟩ = some (.int .i64 (D : Int)) := pF.cell 1
      have f2 : wr.cell? ⟨w.heap.size, 2, none⟩ = some (.slice a raws.length cap) := pF.cell 2
      have hwz : IntKind.i64.wrap (z : Int) = (z : Int) := by rw [IntKind.wrap_i64]; omega
      have Hst : Hid (cornTo j D R cs (k + 1) = if z = D then cs.getD k 0 else cornTo j D R cs k) := by
        show _ = _
        rw [cornTo]
        have e : R.getD k [] = x := by simp [hltR, hx]
        rw [e, hz]
      have HF := Lib.hid pF; have HR := Lib.hid pR; have HO := Lib.hid pO; have Hpb := Lib.hid pb
      clear pF pR pO pb hx hz hxm
      by_cases hzD : z = D
      · have ht : ((z : Int) == (D : Int)) = true := by simp [hzD]
        obtain ⟨s, m, e, hx⟩ : ∃ s m e, raws[k] = (s, m, e) := ⟨_, _, _, rfl⟩
        have HOk : Hid (Ok (s, m, e)) := by show Ok _; rw [← hx]; exact Hok.out _ (List.getElem_mem hlt)
        obtain ⟨X, hX⟩ : ∃ X, dval (s, m, e) = X := ⟨_, rfl⟩
        have HX := Lib.hid hX
        have hck : cs.getD k 0 = X := by rw [← hX, ← hx, ← Hcs.out]; simp [hlt]
        rw [if_pos hzD, hck] at Hst
        obtain ⟨b2, o2, hab2, p0, p1, p2⟩ := (HA.out.below HB.out).num k hlt hx
        have hix2 := ixs (t := 22) (e := 36) (sz := 3) Tryz.underlying22 (by kernel_rfl) raws.length cap k (k : Int) hab2 hlt rfl
        clear hX hck hx hab2 hzD
        go_wp2
        go_region
        go_wp2_with fail
        refine (form_any s m e X HX.out _ HOk.out (by first | exact (HT.out.below HB.out) | exact Tab.drew (HT.out.below HB.out) | exact Tab.alloc (HT.out.below HB.out) _ | exact Tab.drew (Tab.alloc (HT.out.below HB.out) _) | exact Tab.alloc (Tab.drew (HT.out.below HB.out)) _)).mono ?_
        rintro e' w5 ⟨rfl, hbn⟩
        replace hbn := bundrew hbn
        have lo5 := HO.out.lt
        replace HF := Lib.hid (HF.out.below hbn); replace HR := Lib.hid (HR.out.below hbn); replace HO := Lib.hid (HO.out.below hbn)
        have Hbn := Lib.hid (Hpb.out.below' hbn)
        have g0 := HO.out.free 0; have g1 := HO.out.free 1; have g2 := HO.out.free 2
        have k0 : w5.cell? ⟨w2.heap.size, 0, none⟩ = some (.bool (sgnB (dN (cornTo j D R cs k)))) := HO.out.cell 0
        have k1 : w5.cell? ⟨w2.heap.size, 1, none⟩ = some (.string (bs (nt (dN (cornTo j D R cs k)).natAbs))) := HO.out.cell 1
        have k2 : w5.cell? ⟨w2.heap.size, 2, none⟩ = some (.int .i64 (dE (cornTo j D R cs k))) := HO.out.cell 2
        clear hc0 f1 f2 p0 p1 p2 hix hix2 hbn
        go_wp2
        go_roundw
        case rel =>
          refine ⟨k + 1, by omega, by go_num, ?_, ?_, ?_, ?_⟩
          · exact ((HF.out.set_other ⟨w2.heap.size, 0, none⟩ (by dsimp only; omega) _).set_other ⟨w2.heap.size, 1, none⟩ (by dsimp only; omega) _).set_other ⟨w2.heap.size, 2, none⟩ (by dsimp only; omega) _
          · exact ((HR.out.set_other ⟨w2.heap.size, 0, none⟩ (by dsimp only; omega) _).set_other ⟨w2.heap.size, 1, none⟩ (by dsimp only; omega) _).set_other ⟨w2.heap.size, 2, none⟩ (by dsimp only; omega) _
          · rw [Hst.out]
            exact ((HO.out.set 0 _).set 1 _).set 2 _
          · exact (((Hbn.out.set (a := ⟨w2.heap.size, 0, none⟩) rfl _).set (a := ⟨w2.heap.size, 1, none⟩) rfl _).set (a := ⟨w2.heap.size, 2, none⟩) rfl _)
        case measure => simp [intOf]; omega
      · have ht : ((z : Int) == (D : Int)) = false := by simp; omega
        rw [if_neg hzD] at Hst
        clear hzD
        go_wp2
        go_region
        go_wp2
        go_roundw
        case rel => exact ⟨k + 1, by omega, by go_num, HF.out.drew, HR.out.drew, by rw [Hst.out]; exact HO.out.drew, Hpb.out.drew⟩
        case measure => simp [intOf]; omega
    · obtain rfl : k = raws.length := by omega
      have HF := Lib.hid pF; have HR := Lib.hid pR; have HO := Lib.hid pO
      obtain ⟨X, hX⟩ : ∃ X, cornTo j D R cs raws.length = X := ⟨_, rfl⟩
      rw [hX] at pO
      have HX := Lib.hid hX
      have o0 : wr.cell? ⟨w2.heap.size, 0, none⟩ = some (.bool (sgnB (dN X))) := pO.cell 0
      have o1 : wr.cell? ⟨w2.heap.size, 1, none⟩ = some (.string (bs (nt (dN X).natAbs))) := pO.cell 1
      have o2 : wr.cell? ⟨w2.heap.size, 2, none⟩ = some (.int .i64 (dE X)) := pO.cell 2
      have r0 : wr.cell? ⟨w.heap.size + 1, 0, none⟩ = some (.bool false) := pR.cell 0
      have r1 : wr.cell? ⟨w.heap.size + 1, 1, none⟩ = some (.string ⟨#[]⟩) := pR.cell 1
      have r2 : wr.cell? ⟨w.heap.size + 1, 2, none⟩ = some (.int .i64 0) := pR.cell 2
      have fr0 := pR.free 0; have fr1 := pR.free 1; have fr2 := pR.free 2
      clear pF pR pO pb hX HF HO
      go_wp2
      refine bodyPost_ret (v := .tuple #[numV X, .int .i64 0]) (by simp [results, Tryz.results10, go_sem, r0, r1, r2, numV]) rfl ⟨by rw [HX.out], ?_⟩
      exact (((HB.out.setCell (by dsimp only; omega) _).setCell (by dsimp only; omega) _).setCell (by dsimp only; omega) _)
end Go.Proofs.YtidjljldhdckiaaGreatDoor
