/- Package scast: begin. -/
import Derived.Test.YtidjljldhdckiaaGreatDoorKMap
import Derived.Carry
namespace Go.Proofs.YtidjljldhdckiaaGreatDoor
open Go.RowKit
attribute [local go_sem ↓] Go.wp_at_zero Go.wp_at_succ

theorem Tryz.infoN : (Tryz.prog.info? 36).map (fun i => (i.zero, i.size, i.bytes)) = some (some (.agg #[.bool false, .string (bs []), .int .i64 0]), 3, 32) := by kernel_rfl

/-- The cells of numbers, each in its one form. -/
def dC (ds : List Dyadic) : List Value := ds.flatMap fun d => numC (canon d)
theorem dC_length (ds : List Dyadic) : (dC ds).length = ds.length * 3 := flat_length _ 3 (fun _ => rfl) ds

theorem dC_append (a b : List Dyadic) : dC (a ++ b) = dC a ++ dC b := by unfold dC; rw [List.flatMap_append]
theorem made_nums (n : Nat) : madeCells (Value.agg #[.bool false, .string (bs []), .int .i64 0]).cells (n * 3) = (dC (List.replicate n 0)).toArray := by
  have h : ∀ n, (List.range (n * 3)).map (fun i => (Value.agg #[.bool false, .string (bs []), .int .i64 0]).cells[i % 3]!) = dC (List.replicate n 0) := by
    intro n
    induction n with
    | zero => rfl
    | succ n ih =>
      rw [show (n + 1) * 3 = n * 3 + 1 + 1 + 1 by omega, List.range_succ, List.range_succ, List.range_succ, List.map_append, List.map_append, List.map_append, ih, List.replicate_succ', dC_append]
      simp only [List.map_cons, List.map_nil, List.append_assoc]
      rw [show n * 3 % 3 = 0 by omega, show (n * 3 + 1) % 3 = 1 by omega, show (n * 3 + 1 + 1) % 3 = 2 by omega]
      rfl
  apply Array.ext'
  rw [← h n]
  simp [madeCells]
  intro a _
  rfl

theorem mk_nums (c : Int) (n : Nat) (hc : c = n) (h : n ≤ 1048576) (w : World) :
    (Instr.makeSlice 22 (.int .i64 c) (.int .i64 c)).run Tryz.prog w = .ok (.slice (some ⟨w.heap.size, 0, none⟩) n n) (w.alloc (.cells (dC (List.replicate n 0)).toArray 36)) := by
  subst hc
  obtain ⟨i0, hi, hz0, hz1, hz2⟩ := info_parts Tryz.infoN
  rw [run_make (P := Tryz.prog) w 22 36 i0 _ Tryz.underlying22 hi hz0 .i64 .i64 n n (by omega) (by omega) (by rw [hz2]; omega) (by omega)]
  simp only [Int.toNat_natCast, hz1]
  rw [made_nums]

theorem Mp.set {W : World} {b n : Nat} {f : List UInt8 → Nat} (h : Mp W b n f) (a : Addr) (hne : b ≠ a.block) (u : Value) : Mp (W.setCell a u) b n f := by
  obtain ⟨D, h1, h2⟩ := h
  exact ⟨D, h1.setCell hne u, h2⟩

/-- The products' bytes. -/
def keysL (v d : Int) : List (List UInt8) := (prodsL v d).map fun x => x.map UInt8.ofNat
/-- Where a key stands among the first k. -/
def place (xs : List (List UInt8)) : Nat → List UInt8 → Nat
  | 0, _ => 0
  | k + 1, l => if l = xs.getD k [] then k else place xs k l
theorem place_take (xs : List (List UInt8)) (k : Nat) (hk : k < xs.length) : place xs (k + 1) = fun l => if l = xs[k] then k else place xs k l := by
  funext l
  simp [place, hk]

theorem keysL_length (v d : Int) : (keysL v d).length ≤ 512 := by
  unfold keysL prodsL
  rw [List.length_map]
  split
  · rename_i h
    rw [rowsL_count]; omega
  · exact Nat.zero_le _

theorem flat_one {α : Type} (f : α → Value) (xs : List α) : xs.flatMap (fun x => [f x]) = xs.map f := by
  induction xs with
  | nil => rfl
  | cons x xs ih => simp [ih]

set_option maxHeartbeats 2000000 in
set_option maxRecDepth 100000 in
theorem begin_any (v d : Int) (hlen : ∀ l ∈ keysL v d, l.length ≤ 255) (w : World) :
    Calls Tryz.prog 22 #[.int .i64 v, .int .i64 d] w fun e w' => ∃ bB bm, e = .returned (.agg #[.int .i64 v, .int .i64 d, .slice (some ⟨bB, 0, none⟩) (keysL v d).length (keysL v d).length, .map (some bm)]) ∧
      (Blk w' bB 36 (dC (List.replicate (keysL v d).length 0)) ∧ w.heap.size ≤ bB ∧ Mp w' bm (keysL v d).length (place (keysL v d) (keysL v d).length) ∧ w.heap.size ≤ bm) ∧ Below w.heap.size w w' := by
  have hK := keysL_length v d
  have hPr := products_any v d
  have ePr : (prodsL v d).map (fun x => Value.string (ex x)) = (keysL v d).map (fun l => Value.string (bs l)) := by unfold keysL; rw [List.map_map]; rfl
  have eLn : (prodsL v d).length = (keysL v d).length := by unfold keysL; rw [List.length_map]
  rw [ePr, eLn] at hPr
  generalize keysL v d = xs at *
  clear ePr eLn
  have HPr := Lib.hid hPr; have Hlen := Lib.hid hlen; clear hPr hlen
  go_enter Tryz.func22, Tryz.ntmps22
  have Hb : Hid (Below w.heap.size w w) := Below.refl _ _
  go_wp2_with fail
  first | refine wp_world (fun W => Blk W (w.heap.size) 64 [.int .i64 0, .int .i64 0, .slice none 0 0, .map none] ∧ Below w.heap.size w W) ?hR ?_ | refine calls_world (fun W => Blk W (w.heap.size) 64 [.int .i64 0, .int .i64 0, .slice none 0 0, .map none] ∧ Below w.heap.size w W) ?hR ?_
  case hR => exact ⟨(Blk.newAt w _ _ (b := w.heap.size) rfl), ((Below.refl _ _).alloc (Nat.le_refl _) _)⟩
  rintro W ⟨qr, hbn⟩
  have Hr := Lib.hid qr; clear qr
  have r0 : W.cell? ⟨w.heap.size, 0, none⟩ = some (.int .i64 0) := Hr.out.cell 0
  have fr0 : W.frozen? ⟨w.heap.size, 0, none⟩ = false := Hr.out.free 0
  have r1 : W.cell? ⟨w.heap.size, 1, none⟩ = some (.int .i64 0) := Hr.out.cell 1
  have fr1 : W.frozen? ⟨w.heap.size, 1, none⟩ = false := Hr.out.free 1
  have r2 : W.cell? ⟨w.heap.size, 2, none⟩ = some (.slice none 0 0) := Hr.out.cell 2
  have fr2 : W.frozen? ⟨w.heap.size, 2, none⟩ = false := Hr.out.free 2
  have r3 : W.cell? ⟨w.heap.size, 3, none⟩ = some (.map none) := Hr.out.cell 3
  have fr3 : W.frozen? ⟨w.heap.size, 3, none⟩ = false := Hr.out.free 3
  replace Hb := Lib.hid (bnext Hb.out hbn); clear hbn
  go_wp2_with fail
  refine (HPr.out _).mono ?_
  rintro e w1 ⟨a, cap, rfl, hat, _, hbn⟩
  have Hat := Lib.hid hat; clear hat
  have lr := Hr.out.lt
  replace Hr := Lib.hid (Hr.out.below hbn)
  replace Hb := Lib.hid (bnext Hb.out hbn)
  clear hbn r0 r1 r2 r3 fr0 fr1 fr2 fr3
  have lr1 := Hr.out.lt
  have hmk := mk_nums (xs.length : Int) xs.length rfl (by omega)
  have hmm := @run_makeMap Tryz.prog
  go_wp2_with fail
  refine wp_world (fun W2 => Blk W2 w.heap.size 64 [.int .i64 0, .int .i64 0, .slice none 0 0, .map none] ∧ Blk W2 w1.heap.size 36 (dC (List.replicate xs.length 0)) ∧ Mp W2 (w1.heap.size + 1) 0 (fun _ => 0) ∧ Blk W2 (w1.heap.size + 1 + 1) 64 [.int .i64 v, .int .i64 d, .slice (some ⟨w1.heap.size, 0, none⟩) xs.length xs.length, .map (some (w1.heap.size + 1))] ∧ Below w1.heap.size w1 W2)
    ⟨((Hr.out.alloc _).alloc _).alloc _, ((Blk.new _ _ _).alloc _).alloc _, ?_, Blk.newAt _ _ _ (by simp), (((Below.refl _ _).alloc (Nat.le_refl _) _).alloc (by simp) _).alloc (by simp <;> omega) _⟩ ?_
  · have := Mp.made (w1.alloc (.cells (dC (List.replicate xs.length 0)).toArray 36))
    rw [World.size_alloc] at this
    exact this.kept (r := none) (World.grownBy_alloc _ _ none) (by simp)
  rintro W2 ⟨qr, qB, qm, qn, hb2⟩
  go_loopw [22] (fun i wr => ∃ k : Nat, k ≤ xs.length ∧ i = .int .i64 (k : Int) ∧ Blk wr w.heap.size 64 [.int .i64 0, .int .i64 0, .slice none 0 0, .map none] ∧ Blk wr w1.heap.size 36 (dC (List.replicate xs.length 0)) ∧ Mp wr (w1.heap.size + 1) k (place xs k) ∧ Blk wr (w1.heap.size + 1 + 1) 64 [.int .i64 v, .int .i64 d, .slice (some ⟨w1.heap.size, 0, none⟩) xs.length xs.length, .map (some (w1.heap.size + 1))] ∧ Below w1.heap.size w1 wr) (fun i _ => xs.length - (intOf i).toNat)
  case atStart => exact ⟨0, Nat.zero_le _, rfl, qr, qB, qm, qn, hb2⟩
  case round =>
    obtain ⟨k, hk, rfl, pr, pB, pm, pn, hb3⟩ := hrel
    have HB := Lib.hid (bnext Hb.out hb3)
    have n1 : wr.cell? ⟨w1.heap.size + 1 + 1, 3, none⟩ = some (.map (some (w1.heap.size + 1))) := pn.cell 3
    by_cases hlt : k < xs.length
    · have hat2 := Hat.out.below hb3
      have hat3 : At wr a (xs.flatMap fun l => [Value.string (bs l)]) := by rw [flat_one]; exact hat2
      obtain ⟨b, o, hab, hcs⟩ := hat3.elem (f := fun l => [Value.string (bs l)]) (sz := 1) (fun _ => rfl) (by decide) k hlt
      have hc0 : wr.cell? ⟨b, o + k, none⟩ = some (.string (bs xs[k])) := by simpa using hcs 0 (by decide)
      have hix := ixs (t := 69) (e := 9) (sz := 1) Tryz.underlying69 (by kernel_rfl) xs.length cap k (k : Int) hab hlt rfl
      have hl0 := Hlen.out _ (List.getElem_mem hlt)
      obtain ⟨w4, hput, hm4, hg4⟩ := pm.put (by simp [maxLen]; omega) xs[k] (by simp [maxLen]; omega) k (by omega)
      rw [← place_take xs k hlt] at hm4
      rw [Nat.mul_one] at hix
      go_wp2
      go_roundw
      case rel =>
        refine ⟨k + 1, by omega, by go_num, ?_, ?_, hm4, ?_, ?_⟩
        · exact (hg4.block _ pr.lt (by simp; omega)).trans pr
        · exact (hg4.block _ pB.lt (by simp)).trans pB
        · exact (hg4.block _ pn.lt (by simp)).trans pn
        · exact hb3.grown hg4 (by have := hb3.size; omega) (fun j e => by cases e; omega)
      case measure => simp [intOf]; omega
    · obtain rfl : k = xs.length := by omega
      have n0 : wr.cell? ⟨w1.heap.size + 1 + 1, 0, none⟩ = some (.int .i64 v) := pn.cell 0
      have n2 : wr.cell? ⟨w1.heap.size + 1 + 1, 1, none⟩ = some (.int .i64 d) := pn.cell 1
      have n3 : wr.cell? ⟨w1.heap.size + 1 + 1, 2, none⟩ = some (.slice (some ⟨w1.heap.size, 0, none⟩) xs.length xs.length) := pn.cell 2
      have r0 : wr.cell? ⟨w.heap.size, 0, none⟩ = some (.int .i64 0) := pr.cell 0
      have r1 : wr.cell? ⟨w.heap.size, 1, none⟩ = some (.int .i64 0) := pr.cell 1
      have r2 : wr.cell? ⟨w.heap.size, 2, none⟩ = some (.slice none 0 0) := pr.cell 2
      have r3 : wr.cell? ⟨w.heap.size, 3, none⟩ = some (.map none) := pr.cell 3
      have fr0 := pr.free 0; have fr1 := pr.free 1; have fr2 := pr.free 2; have fr3 := pr.free 3
      go_wp2
      refine bodyPost_ret (v := .agg #[.int .i64 v, .int .i64 d, .slice (some ⟨w1.heap.size, 0, none⟩) xs.length xs.length, .map (some (w1.heap.size + 1))]) (by simp [results, Tryz.results22, go_sem, r0, r1, r2, r3]) rfl ⟨w1.heap.size, w1.heap.size + 1, rfl, ⟨?_, by omega, ?_, by omega⟩, ?_⟩
      · exact (((pB.set_other ⟨w.heap.size, 0, none⟩ (by dsimp only; omega) _).set_other ⟨w.heap.size, 1, none⟩ (by dsimp only; omega) _).set_other ⟨w.heap.size, 2, none⟩ (by dsimp only; omega) _).set_other ⟨w.heap.size, 3, none⟩ (by dsimp only; omega) _
      · exact (((pm.set ⟨w.heap.size, 0, none⟩ (by dsimp only; omega) _).set ⟨w.heap.size, 1, none⟩ (by dsimp only; omega) _).set ⟨w.heap.size, 2, none⟩ (by dsimp only; omega) _).set ⟨w.heap.size, 3, none⟩ (by dsimp only; omega) _
      · exact (((HB.out.setCell (by dsimp only; omega) _).setCell (by dsimp only; omega) _).setCell (by dsimp only; omega) _).setCell (by dsimp only; omega) _
end Go.Proofs.YtidjljldhdckiaaGreatDoor

/- Package scast: put. -/
namespace Go.Proofs.YtidjljldhdckiaaGreatDoor
open Go.RowKit
attribute [local go_sem ↓] Go.wp_at_zero Go.wp_at_succ

/-- Cells within a block. -/
def Win (w : World) (b o : Nat) (cs : List Value) : Prop := ∀ j (h : j < cs.length), w.cell? ⟨b, o + j, none⟩ = some cs[j]
theorem Win.cell {w : World} {b o : Nat} {cs : List Value} (h : Win w b o cs) (j : Nat) (hj : j < cs.length) : w.cell? ⟨b, o + j, none⟩ = some cs[j] := h j hj
theorem Win.below {w w' : World} {b o : Nat} {cs : List Value} (h : Win w b o cs) (hb : Below w.heap.size w w') : Win w' b o cs := fun j hj => cell_later hb (h j hj)
theorem Win.set_other {w : World} {b o : Nat} {cs : List Value} (h : Win w b o cs) (a : Addr) (hne : b ≠ a.block) (u : Value) : Win (w.setCell a u) b o cs := fun j hj => cell_set_ne hne (h j hj)
theorem Win.num {w : World} {b : Nat} {t : TypeId} {ds : List Dyadic} (h : Blk w b t (dC ds)) (i : Nat) (hi : i < ds.length) : Win w b (i * 3) [.bool (sgnB (dN ds[i])), .string (bs (nt (dN ds[i]).natAbs)), .int .i64 (dE ds[i])] := by
  intro j hj
  have hj3 : j < 3 := hj
  rw [h.cell]
  have := flat_get (fun d => numC (canon d)) 3 (fun _ => rfl) ds i j hi hj3
  unfold dC
  rw [this]
  rcases j with _ | _ | _ | j
  · rfl
  · rfl
  · rfl
  · omega

theorem dC_set (ds : List Dyadic) (i : Nat) (D : Dyadic) : (((dC ds).set (i * 3) (.bool (sgnB (dN D)))).set (i * 3 + 1) (.string (bs (nt (dN D).natAbs)))).set (i * 3 + 2) (.int .i64 (dE D)) = dC (ds.set i D) := by
  induction ds generalizing i with
  | nil => simp [dC]
  | cons x ds ih =>
    have e : ∀ y : Dyadic, ∀ zs, dC (y :: zs) = .bool (sgnB (dN y)) :: .string (bs (nt (dN y).natAbs)) :: .int .i64 (dE y) :: dC zs := fun y zs => rfl
    cases i with
    | zero => rw [e]; rfl
    | succ i =>
      rw [List.set_cons_succ, e, e, ← ih i, show (i + 1) * 3 = i * 3 + 1 + 1 + 1 by omega]
      rfl

/-- The cells of bytes. -/
def byteC (l : List UInt8) : List Value := l.map fun u => .int .u8 (u.toNat : Int)
theorem byteC_ubs (l : List UInt8) : byteC l = ubs l.length (fun j => (l.getD j 0).toNat) := by
  apply List.ext_getElem?
  intro j
  by_cases h : j < l.length
  · rw [ubs_get _ _ _ h]; simp [byteC, h]
  · simp [byteC, ubs, h]
theorem to_string' {w : World} {b : Nat} {t : TypeId} {l : List UInt8} (h : Blk w b t (byteC l)) (cap : Nat) :
    (convert 67 9 (.slice (some ⟨b, 0, none⟩) l.length cap)).run Tryz.prog w = .ok (.string (bs l)) w := by
  rw [byteC_ubs] at h
  rw [to_string h cap]
  congr 2
  congr 1
  apply List.ext_getElem?
  intro j
  by_cases h : j < l.length
  · simp [h]
  · simp [h]

set_option maxHeartbeats 2000000 in
set_option maxRecDepth 100000 in
theorem put_conv (v d : Int) (bB bm bM nM capM n i B : Nat) (f : List UInt8 → Nat) (ds : List Dyadic) (l : List UInt8) (s : Bool) (m : List UInt8) (e : Int) (D : Dyadic) (w : World)
    (hB : Blk w bB 36 (dC ds)) (hm : Mp w bm n f) (hconv : ∀ W, Below w.heap.size w W → (convert 67 9 (.slice (some ⟨bM, 0, none⟩) nM capM)).run Tryz.prog W = .ok (.string (bs l)) W) (hl : l.length ≤ 255) (hi : f l = i) (hid : i < ds.length)
    (hx : Fit B (s, m, e)) (hd : Sm B ds[i]) (hBB : B + 2 ≤ 268435456) (hD : ds[i] + dval (s, m, e) = D) (hT : Tab w) :
    Calls Tryz.prog 25 #[.agg #[.int .i64 v, .int .i64 d, .slice (some ⟨bB, 0, none⟩) ds.length ds.length, .map (some bm)], .slice (some ⟨bM, 0, none⟩) nM capM, .agg #[.bool s, .string (bs m), .int .i64 e]] w fun ex w' =>
      (∃ r, ex = .returned r) ∧ Blk w' bB 36 (dC (ds.set i D)) ∧ w.grownBy w' (some bB) := by
  have Hg := Lib.hid (Win.num hB i hid)
  have HD : Hid (dval (sgnB (dN ds[i]), nt (dN ds[i]).natAbs, dE ds[i]) + dval (s, m, e) = D) := by show dval (canon ds[i]) + _ = _; rw [dval_canon]; exact hD
  have Hfg : Hid (Fit B (sgnB (dN ds[i]), nt (dN ds[i]).natAbs, dE ds[i])) := hd.fit (by omega)
  have Hfx := Lib.hid hx
  have lB := hB.lt
  clear hD hd hx
  have hlook : ∀ W, Below w.heap.size w W → (Instr.lookup 62 (.map (some bm)) (.string (bs l)) false).run Tryz.prog W = .ok (.int .i64 (i : Int)) W := fun W hW => by
    rw [← hi]; exact (hm.below hW).look l (by simp [maxLen]; omega)
  have Hlook := Lib.hid hlook
  have Hconv := Lib.hid hconv
  clear hlook hconv
  obtain ⟨g, hg⟩ : ∃ g, ds[i] = g := ⟨_, rfl⟩
  rw [hg] at Hg HD Hfg
  clear hg
  obtain ⟨W, hW⟩ : ∃ W, (w.alloc (.cells #[.int .i64 v, .int .i64 d, .slice (some ⟨bB, 0, none⟩) ds.length ds.length, .map (some bm)] 64)).alloc (.cells #[.bool s, .string (bs m), .int .i64 e] 36) = W := ⟨_, rfl⟩
  have Hb : Hid (Below w.heap.size w W) := by rw [← hW]; exact ((Below.refl _ _).alloc (Nat.le_refl _) _).alloc (by simp) _
  have Hx : Hid (Blk W w.heap.size 64 [.int .i64 v, .int .i64 d, .slice (some ⟨bB, 0, none⟩) ds.length ds.length, .map (some bm)]) := by rw [← hW]; exact (Blk.new _ _ _).alloc _
  have Hc : Hid (Blk W (w.heap.size + 1) 36 [.bool s, .string (bs m), .int .i64 e]) := by rw [← hW]; exact Blk.newAt _ _ _ (by simp)
  have hl1 := Hlook.out W Hb.out
  have hc1 := Hconv.out W Hb.out
  have HT := Lib.hid (hT.below Hb.out)
  have HBW := Lib.hid (hB.below Hb.out)
  replace Hg := Lib.hid (Hg.out.below Hb.out)
  have hix := ixs (t := 22) (e := 36) (sz := 3) Tryz.underlying22 (by kernel_rfl) ds.length ds.length i (i : Int) (show (some ⟨bB, 0, none⟩ : Option Addr) = some ⟨bB, 0, none⟩ from rfl) hid rfl
  rw [Nat.zero_add] at hix
  go_enter Tryz.func25, Tryz.ntmps25
  have x0 : W.cell? ⟨w.heap.size, 0, none⟩ = some (.int .i64 v) := Hx.out.cell 0
  have x1 : W.cell? ⟨w.heap.size, 1, none⟩ = some (.int .i64 d) := Hx.out.cell 1
  have x2 : W.cell? ⟨w.heap.size, 2, none⟩ = some (.slice (some ⟨bB, 0, none⟩) ds.length ds.length) := Hx.out.cell 2
  have x3 : W.cell? ⟨w.heap.size, 3, none⟩ = some (.map (some bm)) := Hx.out.cell 3
  have c0 : W.cell? ⟨w.heap.size + 1, 0, none⟩ = some (.bool s) := Hc.out.cell 0
  have c1 : W.cell? ⟨w.heap.size + 1, 1, none⟩ = some (.string (bs m)) := Hc.out.cell 1
  have c2 : W.cell? ⟨w.heap.size + 1, 2, none⟩ = some (.int .i64 e) := Hc.out.cell 2
  have g0 : W.cell? ⟨bB, i * 3, none⟩ = some (.bool (sgnB (dN g))) := Hg.out.cell 0 (by simp)
  have g1 : W.cell? ⟨bB, i * 3 + 1, none⟩ = some (.string (bs (nt (dN g).natAbs))) := Hg.out.cell 1 (by simp)
  have g2 : W.cell? ⟨bB, i * 3 + 2, none⟩ = some (.int .i64 (dE g)) := Hg.out.cell 2 (by simp)
  go_wp2_with fail
  refine wp_region_plan (fun w' => w'.cell? ⟨w.heap.size, 0, none⟩ = some (.int .i64 v) ∧ w'.cell? ⟨w.heap.size, 1, none⟩ = some (.int .i64 d) ∧ w'.cell? ⟨w.heap.size, 2, none⟩ = some (.slice (some ⟨bB, 0, none⟩) ds.length ds.length) ∧ w'.cell? ⟨w.heap.size, 3, none⟩ = some (.map (some bm)) ∧ w'.cell? ⟨w.heap.size + 1, 0, none⟩ = some (.bool s) ∧ w'.cell? ⟨w.heap.size + 1, 1, none⟩ = some (.string (bs m)) ∧ w'.cell? ⟨w.heap.size + 1, 2, none⟩ = some (.int .i64 e) ∧ w'.cell? ⟨bB, i * 3, none⟩ = some (.bool (sgnB (dN g))) ∧ w'.cell? ⟨bB, i * 3 + 1, none⟩ = some (.string (bs (nt (dN g).natAbs))) ∧ w'.cell? ⟨bB, i * 3 + 2, none⟩ = some (.int .i64 (dE g))) (fun i => Nat.blt i 14) [(0, true), (1, true), (2, true), (3, true), (4, true), (5, true), (6, true), (7, true), (8, true), (9, true), (10, true), (11, false), (12, false), (13, true), (14, false)] (by kernel_rfl) (by kernel_rfl) rfl (by kernel_rfl) (fun o c a v w => by cases o.dst <;> exact id) ⟨x0, x1, x2, x3, c0, c1, c2, g0, g1, g2⟩ ?_
  refine planT rfl rfl (v := ?_) (fun w' hw' => ?_) ?_; rotate_left; focus (go_simp; try with_reducible rfl)
  try simp only [Act.put, List.setIfInBounds_toArray, List.set_cons_zero, List.set_cons_succ]
  refine planT rfl rfl (v := ?_) (fun w' hw' => ?_) ?_; rotate_left; focus (go_simp; try with_reducible rfl)
  try simp only [Act.put, List.setIfInBounds_toArray, List.set_cons_zero, List.set_cons_succ]
  refine planT rfl rfl (v := ?_) (fun w' hw' => ?_) ?_; rotate_left; focus (obtain ⟨q0, q1, q2, q3, q4, q5, q6, q7, q8, q9⟩ := hw'; go_simp; try with_reducible rfl)
  try simp only [Act.put, List.setIfInBounds_toArray, List.set_cons_zero, List.set_cons_succ]
  refine planT rfl rfl (v := ?_) (fun w' hw' => ?_) ?_; rotate_left; focus (go_simp; try with_reducible rfl)
  try simp only [Act.put, List.setIfInBounds_toArray, List.set_cons_zero, List.set_cons_succ]
  refine planT rfl rfl (v := ?_) (fun w' hw' => ?_) ?_; rotate_left; focus (go_simp; try with_reducible rfl)
  try simp only [Act.put, List.setIfInBounds_toArray, List.set_cons_zero, List.set_cons_succ]
  refine planT rfl rfl (v := ?_) (fun w' hw' => ?_) ?_; rotate_left; focus (go_simp; try with_reducible rfl)
  try simp only [Act.put, List.setIfInBounds_toArray, List.set_cons_zero, List.set_cons_succ]
  refine planT rfl rfl (v := ?_) (fun w' hw' => ?_) ?_; rotate_left; focus (obtain ⟨q0, q1, q2, q3, q4, q5, q6, q7, q8, q9⟩ := hw'; go_simp; try with_reducible rfl)
  try simp only [Act.put, List.setIfInBounds_toArray, List.set_cons_zero, List.set_cons_succ]
  refine planT rfl rfl (v := ?_) (fun w' hw' => ?_) ?_; rotate_left; focus (go_simp; try with_reducible rfl)
  try simp only [Act.put, List.setIfInBounds_toArray, List.set_cons_zero, List.set_cons_succ]
  refine planT rfl rfl (v := ?_) (fun w' hw' => ?_) ?_; rotate_left; focus (go_simp; try with_reducible rfl)
  try simp only [Act.put, List.setIfInBounds_toArray, List.set_cons_zero, List.set_cons_succ]
  refine planT rfl rfl (v := ?_) (fun w' hw' => ?_) ?_; rotate_left; focus (obtain ⟨q0, q1, q2, q3, q4, q5, q6, q7, q8, q9⟩ := hw'; go_simp; try with_reducible rfl)
  try simp only [Act.put, List.setIfInBounds_toArray, List.set_cons_zero, List.set_cons_succ]
  refine planT rfl rfl (v := ?_) (fun w' hw' => ?_) ?_; rotate_left; focus (obtain ⟨q0, q1, q2, q3, q4, q5, q6, q7, q8, q9⟩ := hw'; go_simp; try with_reducible rfl)
  try simp only [Act.put, List.setIfInBounds_toArray, List.set_cons_zero, List.set_cons_succ]
  refine planF rfl rfl (fun K hK => ?_)
  go_simp
  refine hK _ _ (fun _ => ⟨cell_new x0, cell_new x1, cell_new x2, cell_new x3, cell_new c0, cell_new c1, cell_new c2, cell_new g0, cell_new g1, cell_new g2⟩) ?_; clear hK K
  try simp only [Act.put, List.setIfInBounds_toArray, List.set_cons_zero, List.set_cons_succ]
  refine plan_world (fun W3 => Blk W3 (W.heap.size) 36 [.bool (sgnB (dN g)), .string (bs (nt (dN g).natAbs)), .int .i64 (dE g), .bool s, .string (bs m), .int .i64 e] ∧ Below W.heap.size W W3) (by first | exact ⟨Blk.new _ _ _, (Below.refl _ _).alloc (Nat.le_refl _) _⟩ | exact ⟨Blk.drew (Blk.new _ _ _), ((Below.refl _ _).alloc (Nat.le_refl _) _).drew⟩) ?_
  rintro W3 ⟨qa, hbn⟩
  clear x0 x1 x2 x3
  clear c0 c1 c2
  clear g0 g1 g2
  have lz_x_W3 : w.heap.size < W.heap.size := Hx.out.lt
  have lz_c_W3 : w.heap.size + 1 < W.heap.size := Hc.out.lt
  replace Hx := Lib.hid (Hx.out.below hbn)
  replace Hc := Lib.hid (Hc.out.below hbn)
  replace Hg := Lib.hid (Hg.out.below hbn)
  have Ha := Lib.hid qa; clear qa
  have x0 : W3.cell? ⟨w.heap.size, 0, none⟩ = some (.int .i64 v) := Hx.out.cell 0
  have x1 : W3.cell? ⟨w.heap.size, 1, none⟩ = some (.int .i64 d) := Hx.out.cell 1
  have x2 : W3.cell? ⟨w.heap.size, 2, none⟩ = some (.slice (some ⟨bB, 0, none⟩) ds.length ds.length) := Hx.out.cell 2
  have x3 : W3.cell? ⟨w.heap.size, 3, none⟩ = some (.map (some bm)) := Hx.out.cell 3
  have c0 : W3.cell? ⟨w.heap.size + 1, 0, none⟩ = some (.bool s) := Hc.out.cell 0
  have c1 : W3.cell? ⟨w.heap.size + 1, 1, none⟩ = some (.string (bs m)) := Hc.out.cell 1
  have c2 : W3.cell? ⟨w.heap.size + 1, 2, none⟩ = some (.int .i64 e) := Hc.out.cell 2
  have g0 : W3.cell? ⟨bB, i * 3, none⟩ = some (.bool (sgnB (dN g))) := Hg.out.cell 0 (by simp)
  have g1 : W3.cell? ⟨bB, i * 3 + 1, none⟩ = some (.string (bs (nt (dN g).natAbs))) := Hg.out.cell 1 (by simp)
  have g2 : W3.cell? ⟨bB, i * 3 + 2, none⟩ = some (.int .i64 (dE g)) := Hg.out.cell 2 (by simp)
  have a0 : W3.cell? ⟨W.heap.size, 0, none⟩ = some (.bool (sgnB (dN g))) := Ha.out.cell 0
  have a1 : W3.cell? ⟨W.heap.size, 1, none⟩ = some (.string (bs (nt (dN g).natAbs))) := Ha.out.cell 1
  have a2 : W3.cell? ⟨W.heap.size, 2, none⟩ = some (.int .i64 (dE g)) := Ha.out.cell 2
  have a3 : W3.cell? ⟨W.heap.size, 3, none⟩ = some (.bool s) := Ha.out.cell 3
  have a4 : W3.cell? ⟨W.heap.size, 4, none⟩ = some (.string (bs m)) := Ha.out.cell 4
  have a5 : W3.cell? ⟨W.heap.size, 5, none⟩ = some (.int .i64 e) := Ha.out.cell 5
  replace Hb := Lib.hid (bnext Hb.out hbn); clear hbn
  refine planF rfl rfl (fun K hK => ?_)
  go_simp
  with_reducible refine (dAdd_two (sgnB (dN g)) (nt (dN g).natAbs) (dE g) s m e D B HD.out W.heap.size 2 36 _ Hfg.out Hfx.out hBB Ha.out (by first | exact (hT.below Hb.out) | exact Tab.drew (hT.below Hb.out) | exact Tab.alloc (hT.below Hb.out) _ | exact Tab.drew (Tab.alloc (hT.below Hb.out) _) | exact Tab.alloc (Tab.drew (hT.below Hb.out)) _)).mono ?_
  rintro e w3 ⟨rfl, hq⟩
  have hbn : Below W3.heap.size W3 w3 := (by first | exact hq | exact bundrew hq); clear hq
  clear x0 x1 x2 x3
  clear c0 c1 c2
  clear g0 g1 g2
  clear a0 a1 a2 a3 a4 a5
  replace Hx := Lib.hid (Hx.out.below hbn)
  replace Hc := Lib.hid (Hc.out.below hbn)
  replace Hg := Lib.hid (Hg.out.below hbn)
  replace Ha := Lib.hid (Ha.out.below hbn)
  have x0 : w3.cell? ⟨w.heap.size, 0, none⟩ = some (.int .i64 v) := Hx.out.cell 0
  have x1 : w3.cell? ⟨w.heap.size, 1, none⟩ = some (.int .i64 d) := Hx.out.cell 1
  have x2 : w3.cell? ⟨w.heap.size, 2, none⟩ = some (.slice (some ⟨bB, 0, none⟩) ds.length ds.length) := Hx.out.cell 2
  have x3 : w3.cell? ⟨w.heap.size, 3, none⟩ = some (.map (some bm)) := Hx.out.cell 3
  have c0 : w3.cell? ⟨w.heap.size + 1, 0, none⟩ = some (.bool s) := Hc.out.cell 0
  have c1 : w3.cell? ⟨w.heap.size + 1, 1, none⟩ = some (.string (bs m)) := Hc.out.cell 1
  have c2 : w3.cell? ⟨w.heap.size + 1, 2, none⟩ = some (.int .i64 e) := Hc.out.cell 2
  have g0 : w3.cell? ⟨bB, i * 3, none⟩ = some (.bool (sgnB (dN g))) := Hg.out.cell 0 (by simp)
  have g1 : w3.cell? ⟨bB, i * 3 + 1, none⟩ = some (.string (bs (nt (dN g).natAbs))) := Hg.out.cell 1 (by simp)
  have g2 : w3.cell? ⟨bB, i * 3 + 2, none⟩ = some (.int .i64 (dE g)) := Hg.out.cell 2 (by simp)
  have a0 : w3.cell? ⟨W.heap.size, 0, none⟩ = some (.bool (sgnB (dN g))) := Ha.out.cell 0
  have a1 : w3.cell? ⟨W.heap.size, 1, none⟩ = some (.string (bs (nt (dN g).natAbs))) := Ha.out.cell 1
  have a2 : w3.cell? ⟨W.heap.size, 2, none⟩ = some (.int .i64 (dE g)) := Ha.out.cell 2
  have a3 : w3.cell? ⟨W.heap.size, 3, none⟩ = some (.bool s) := Ha.out.cell 3
  have a4 : w3.cell? ⟨W.heap.size, 4, none⟩ = some (.string (bs m)) := Ha.out.cell 4
  have a5 : w3.cell? ⟨W.heap.size, 5, none⟩ = some (.int .i64 e) := Ha.out.cell 5
  replace Hb := Lib.hid (bnext Hb.out hbn); clear hbn
  refine hK _ _ (fun _ => ⟨x0, x1, x2, x3, c0, c1, c2, g0, g1, g2⟩) ?_; clear hK K
  try simp only [Act.put, List.setIfInBounds_toArray, List.set_cons_zero, List.set_cons_succ]
  refine planT rfl rfl (v := ?_) (fun w' hw' => ?_) ?_; rotate_left; focus (go_simp; try with_reducible rfl)
  try simp only [Act.put, List.setIfInBounds_toArray, List.set_cons_zero, List.set_cons_succ]
  refine planF rfl rfl (fun K hK => ?_)
  go_simp
  have hB3 := hB.below Hb.out
  have z0 : w3.frozen? ⟨bB, i * 3, none⟩ = false := hB3.free _
  have z1 : w3.frozen? ⟨bB, i * 3 + 1, none⟩ = false := hB3.free _
  have z2 : w3.frozen? ⟨bB, i * 3 + 2, none⟩ = false := hB3.free _
  go_simp
  refine hK _ _ (fun h => absurd h (by decide)) ?_; clear hK K
  simp only [wpPlan]
  go_end0
  refine ⟨⟨_, rfl⟩, ?_, ?_⟩
  · have := ((hB3.set (i * 3) (.bool (sgnB (dN D)))).set (i * 3 + 1) (.string (bs (nt (dN D).natAbs)))).set (i * 3 + 2) (.int .i64 (dE D))
    rw [dC_set] at this
    exact this
  · have q := Hb.out
    refine ⟨q.os, q.tape, q.output, ?_, fun k hk hne => ?_⟩
    · exact Nat.le_trans q.size (by simp)
    · have hkb : k ≠ bB := fun e => hne (by rw [e])
      refine ((Below.heap_setCell _ _ _ k hkb).trans ((Below.heap_setCell _ _ _ k hkb).trans (Below.heap_setCell _ _ _ k hkb))).trans (q.block k hk)
theorem put_any (v d : Int) (bB bm bM capM n i B : Nat) (f : List UInt8 → Nat) (ds : List Dyadic) (l : List UInt8) (s : Bool) (m : List UInt8) (e : Int) (D : Dyadic) (w : World)
    (hB : Blk w bB 36 (dC ds)) (hm : Mp w bm n f) (hM : Blk w bM 5 (byteC l)) (hl : l.length ≤ 255) (hi : f l = i) (hid : i < ds.length)
    (hx : Fit B (s, m, e)) (hd : Sm B ds[i]) (hBB : B + 2 ≤ 268435456) (hD : ds[i] + dval (s, m, e) = D) (hT : Tab w) :
    Calls Tryz.prog 25 #[.agg #[.int .i64 v, .int .i64 d, .slice (some ⟨bB, 0, none⟩) ds.length ds.length, .map (some bm)], .slice (some ⟨bM, 0, none⟩) l.length capM, .agg #[.bool s, .string (bs m), .int .i64 e]] w fun ex w' =>
      (∃ r, ex = .returned r) ∧ Blk w' bB 36 (dC (ds.set i D)) ∧ w.grownBy w' (some bB) :=
  put_conv v d bB bm bM l.length capM n i B f ds l s m e D w hB hm (fun _ hW => to_string' (hM.below hW) capM) hl hi hid hx hd hBB hD hT
end Go.Proofs.YtidjljldhdckiaaGreatDoor

/- Package scast: Lift's closure. -/
namespace Go.Proofs.YtidjljldhdckiaaGreatDoor
open Go.RowKit
attribute [local go_sem ↓] Go.wp_at_zero Go.wp_at_succ

/-- A number added at a place. -/
def addAt (ds : List Dyadic) (i : Nat) (x : Dyadic) : List Dyadic := ds.set i (ds.getD i 0 + x)
theorem addAt_length (ds : List Dyadic) (i : Nat) (x : Dyadic) : (addAt ds i x).length = ds.length := by simp [addAt]
theorem addAt_sm {B : Nat} {ds : List Dyadic} (h : ∀ d ∈ ds, Sm B d) (i : Nat) {x : Dyadic} (hx : Sm B x) : ∀ d ∈ addAt ds i x, Sm (B + 1) d := by
  intro d hd
  unfold addAt at hd
  rcases List.mem_or_eq_of_mem_set hd with h1 | h1
  · exact (h d h1).mono (by omega)
  · subst h1
    by_cases hi : i < ds.length
    · have e : ds.getD i 0 = ds[i] := by simp [hi]
      rw [e]; exact Sm.add (h _ (List.getElem_mem hi)) hx
    · have e : ds.getD i 0 = 0 := by simp [hi]
      rw [e]; exact Sm.add (Sm.zero _) hx

/-- What Lift's closure does with one number: at each product that is one exponent more, it is added. -/
def liftTo (f : List UInt8 → Nat) (l : List UInt8) (c : Dyadic) (ds : List Dyadic) : Nat → List Dyadic
  | 0 => ds
  | k + 1 => addAt (liftTo f l c ds k) (f (l.set k (l.getD k 0 + 1))) c

theorem liftTo_length (f : List UInt8 → Nat) (l : List UInt8) (c : Dyadic) (ds : List Dyadic) (k : Nat) : (liftTo f l c ds k).length = ds.length := by
  induction k with
  | zero => rfl
  | succ k ih => rw [liftTo, addAt_length, ih]
theorem liftTo_sm {B : Nat} (f : List UInt8 → Nat) (l : List UInt8) (c : Dyadic) (ds : List Dyadic) (h : ∀ d ∈ ds, Sm B d) (hc : Sm B c) (k : Nat) : ∀ d ∈ liftTo f l c ds k, Sm (B + k) d := by
  induction k with
  | zero => exact h
  | succ k ih => exact addAt_sm ih _ (hc.mono (by omega))

theorem Chg.tab {Y : Nat → Prop} {w w' : World} (h : Chg Y w w') (hT : Tab w) (hy : ¬ Y 0) : Tab w' := fun j hj => h.cell (hT j hj) hy
theorem Chg.mp {Y : Nat → Prop} {w w' : World} (h : Chg Y w w') {b n : Nat} {f : List UInt8 → Nat} (hm : Mp w b n f) (hy : ¬ Y b) : Mp w' b n f := by
  obtain ⟨D, ⟨es, clock, hb, F, hs, hD⟩, h2⟩ := hm
  exact ⟨D, ⟨es, clock, (h.block b (Array.getElem?_eq_some_iff.1 hb).1 hy).trans hb, F, hs, hD⟩, h2⟩
theorem byteC_set (l : List UInt8) (k : Nat) (u : UInt8) : (byteC l).set k (.int .u8 (u.toNat : Int)) = byteC (l.set k u) := by
  unfold byteC; rw [List.map_set]
theorem byteC_get (l : List UInt8) (k : Nat) (hk : k < l.length) : (byteC l)[k]? = some (.int .u8 (l[k].toNat : Int)) := by
  simp [byteC, hk]

set_option maxHeartbeats 2000000 in
set_option maxRecDepth 100000 in
theorem lift1_any (v d : Int) (bB bm bM bx capM n B : Nat) (f : List UInt8 → Nat) (ds : List Dyadic) (l : List UInt8) (s : Bool) (m : List UInt8) (e : Int) (w : World)
    (hX : Blk w bx 64 [.int .i64 v, .int .i64 d, .slice (some ⟨bB, 0, none⟩) ds.length ds.length, .map (some bm)]) (hB : Blk w bB 36 (dC ds)) (hm : Mp w bm n f) (hM : Blk w bM 5 (byteC l)) (hl : l.length ≤ 255) (hu : ∀ u ∈ l, u.toNat ≤ 200)
    (hi : ∀ k (h : k < l.length), f (l.set k (l[k] + 1)) < ds.length) (hx : Fit B (s, m, e)) (hd : ∀ x ∈ ds, Sm B x) (hBB : B + l.length + 2 ≤ 268435456) (hT : Tab w)
    (t1 : 0 ≠ bM) (t2 : 0 ≠ bB) :
    Calls Tryz.prog 24 #[.slice (some ⟨bM, 0, none⟩) l.length capM, .agg #[.bool s, .string (bs m), .int .i64 e], .pointer (some ⟨bx, 0, none⟩)] w fun ex w' =>
      (∃ r, ex = .returned r) ∧ Blk w' bB 36 (dC (liftTo f l (dval (s, m, e)) ds l.length)) ∧ Blk w' bM 5 (byteC l) ∧ Chg (fun b => b = bM ∨ b = bB) w w' := by
  have nMB : bM ≠ bB := by rintro rfl; have h := hM.symm.trans hB; simp at h
  have nMX : bM ≠ bx := by rintro rfl; have h := hM.symm.trans hX; simp at h
  have nXB : bx ≠ bB := by rintro rfl; have h := hX.symm.trans hB; simp at h
  have nmM : bm ≠ bM := by
    rintro rfl
    obtain ⟨D, ⟨es, clock, hb, _⟩, _⟩ := hm
    have h := hM.symm.trans hb; simp at h
  have nmB : bm ≠ bB := by
    rintro rfl
    obtain ⟨D, ⟨es, clock, hb, _⟩, _⟩ := hm
    have h := hB.symm.trans hb; simp at h
  obtain ⟨c, hc⟩ : ∃ c, dval (s, m, e) = c := ⟨_, rfl⟩
  have lX := hX.lt; have lB := hB.lt; have lM := hM.lt; have lm := hm.lt
  have Hx0 := Lib.hid hx
  have Hd := Lib.hid hd
  have Hi := Lib.hid hi
  have Hu := Lib.hid hu
  rw [hc]
  have Hc0 := Lib.hid hc
  clear hx hd hi hu hc
  go_enter Tryz.func24, Tryz.ntmps24
  go_wp2_with fail
  go_loopw [8] (fun i wr => ∃ k : Nat, k ≤ l.length ∧ i = .int .i64 (k : Int) ∧ Blk wr w.heap.size 36 [.bool s, .string (bs m), .int .i64 e] ∧ Blk wr bx 64 [.int .i64 v, .int .i64 d, .slice (some ⟨bB, 0, none⟩) ds.length ds.length, .map (some bm)] ∧ Blk wr bM 5 (byteC l) ∧ Blk wr bB 36 (dC (liftTo f l c ds k)) ∧ Mp wr bm n f ∧ Chg (fun b => b = bM ∨ b = bB) w wr) (fun i _ => l.length - (intOf i).toNat)
  case atStart => exact ⟨0, Nat.zero_le _, rfl, Blk.new _ _ _, hX.alloc _, hM.alloc _, hB.alloc _, hm.kept (r := none) (World.grownBy_alloc _ _ none) (by simp), Chg.of_below ((Below.refl _ _).alloc (Nat.le_refl _) _)⟩
  case round =>
    obtain ⟨k, hk, rfl, pc, pX, pM, pB, pm, pg⟩ := hrel
    by_cases hlt : k < l.length
    · have hix := ixs (t := 67) (e := 5) (sz := 1) Tryz.underlying67 (by kernel_rfl) l.length capM k (k : Int) (show (some ⟨bM, 0, none⟩ : Option Addr) = some ⟨bM, 0, none⟩ from rfl) hlt rfl
      rw [Nat.mul_one, Nat.zero_add] at hix
      have huk := Hu.out _ (List.getElem_mem hlt)
      have hu1 : (l[k] + 1).toNat = l[k].toNat + 1 := by rw [UInt8.toNat_add]; simp; omega
      obtain ⟨l', hl'⟩ : ∃ l', l.set k (l[k] + 1) = l' := ⟨_, rfl⟩
      have hll : l'.length = l.length := by rw [← hl']; simp
      obtain ⟨p, hp⟩ : ∃ p : Int, (l[k].toNat : Int) = p := ⟨_, rfl⟩
      obtain ⟨q, hq⟩ : ∃ q : Int, ((l[k] + 1).toNat : Int) = q := ⟨_, rfl⟩
      have m0 : wr.cell? ⟨bM, k, none⟩ = some (.int .u8 p) := by rw [pM.cell, byteC_get l k hlt, hp]
      have mf : wr.frozen? ⟨bM, k, none⟩ = false := pM.free _
      have hw8 : IntKind.u8.wrap (p + 1) = q := by rw [IntKind.wrap_u8]; omega
      have hw9 : IntKind.u8.wrap (q - 1) = p := by rw [IntKind.wrap_u8]; omega
      obtain ⟨W1, hW1⟩ : ∃ W1, wr.setCell ⟨bM, k, none⟩ (.int .u8 q) = W1 := ⟨_, rfl⟩
      have Hp := Lib.hid hp; have Hq := Lib.hid hq
      clear hp hq hu1 huk
      have pM1 : Blk W1 bM 5 (byteC l') := by rw [← hW1, ← hl', ← byteC_set, Hq.out]; exact pM.set k _
      have pX1 : Blk W1 bx 64 [.int .i64 v, .int .i64 d, .slice (some ⟨bB, 0, none⟩) ds.length ds.length, .map (some bm)] := by rw [← hW1]; exact pX.set_other ⟨bM, k, none⟩ (by dsimp only; omega) _
      have pc1 : Blk W1 w.heap.size 36 [.bool s, .string (bs m), .int .i64 e] := by rw [← hW1]; exact pc.set_other ⟨bM, k, none⟩ (by dsimp only; omega) _
      have pB1 : Blk W1 bB 36 (dC (liftTo f l c ds k)) := by rw [← hW1]; exact pB.set_other ⟨bM, k, none⟩ (by dsimp only; omega) _
      have pm1 : Mp W1 bm n f := by rw [← hW1]; exact pm.set ⟨bM, k, none⟩ (by dsimp only; omega) _
      have pg1 : Chg (fun b => b = bM ∨ b = bB) w W1 := by
        rw [← hW1]
        exact pg.trans (Chg.of_grown (Y := fun b => b = bM ∨ b = bB) (r := some bM) ⟨rfl, rfl, rfl, by simp, fun j _ hne => Below.heap_setCell _ _ _ j (fun e => hne (by rw [e]))⟩ (fun b e => by cases e; exact .inl rfl)) (fun b h => .inl h)
      have hTa : Tab W1 := pg1.tab hT (by rintro (h | h); exact t1 h; exact t2 h)
      have hik := Hi.out k hlt
      rw [hl'] at hik
      have hLl := liftTo_length f l c ds k
      have hfl : f l' < (liftTo f l c ds k).length := by rw [hLl]; exact hik
      obtain ⟨Dn, hDn⟩ : ∃ Dn, (liftTo f l c ds k)[f l'] + c = Dn := ⟨_, rfl⟩
      have hput := put_any v d bB bm bM capM n (f l') (B + k) f (liftTo f l c ds k) l' s m e Dn W1 pB1 pm1 pM1 (by omega) rfl hfl (Hx0.out.mono (by omega)) (liftTo_sm f l c ds Hd.out (by rw [← Hc0.out]; exact Hx0.out.2) k _ (List.getElem_mem _)) (by omega) (by rw [Hc0.out]; exact hDn) hTa
      rw [hLl, hll] at hput
      have est : (liftTo f l c ds k).set (f l') Dn = liftTo f l c ds (k + 1) := by
        rw [← hDn]
        show _ = addAt _ _ _
        unfold addAt
        have e1 : l.set k (l.getD k 0 + 1) = l' := by rw [← hl']; simp [hlt]
        rw [e1]
        congr 1
        simp [hfl]
      clear hDn hfl
      rw [est] at hput
      have Hput := Lib.hid hput; clear hput est
      have c0 : W1.cell? ⟨w.heap.size, 0, none⟩ = some (.bool s) := pc1.cell 0
      have c1 : W1.cell? ⟨w.heap.size, 1, none⟩ = some (.string (bs m)) := pc1.cell 1
      have c2 : W1.cell? ⟨w.heap.size, 2, none⟩ = some (.int .i64 e) := pc1.cell 2
      have x0 : W1.cell? ⟨bx, 0, none⟩ = some (.int .i64 v) := pX1.cell 0
      have x1 : W1.cell? ⟨bx, 1, none⟩ = some (.int .i64 d) := pX1.cell 1
      have x2 : W1.cell? ⟨bx, 2, none⟩ = some (.slice (some ⟨bB, 0, none⟩) ds.length ds.length) := pX1.cell 2
      have x3 : W1.cell? ⟨bx, 3, none⟩ = some (.map (some bm)) := pX1.cell 3
      have Hl' := Lib.hid hl'
      clear hl' hik
      go_wp2_with fail
      refine Hput.out.mono ?_
      rintro e' w2 ⟨⟨r, rfl⟩, qB, qg⟩
      have gM : Blk w2 bM 5 (byteC l') := (qg.block bM pM1.lt (fun e => nMB (by cases e; rfl))).trans pM1
      have m2 : w2.cell? ⟨bM, k, none⟩ = some (.int .u8 q) := by
        rw [gM.cell, byteC_get l' k (by omega), ← Hq.out]
        congr 3
        have : l'[k]'(by omega) = (l.set k (l[k] + 1))[k]'(by simp; omega) := by congr 1; exact Hl'.out.symm
        rw [this]; simp
      have mf2 : w2.frozen? ⟨bM, k, none⟩ = false := gM.free _
      go_wp2
      go_roundw
      case rel =>
        have hne : ∀ b, b ≠ bM → b ≠ bB → b < W1.heap.size → (w2.setCell ⟨bM, k, none⟩ (.int .u8 p)).heap[b]? = W1.heap[b]? := fun b h1 h2 h3 => (Below.heap_setCell _ _ _ b h1).trans (qg.block b h3 (fun e => h2 (by cases e; rfl)))
        refine ⟨k + 1, by omega, by go_num, (hne _ (by omega) (by omega) pc1.lt).trans pc1, (hne _ (by omega) nXB pX1.lt).trans pX1, ?_, ?_, ?_, ?_⟩
        · have := gM.set k (.int .u8 p)
          rw [← Hp.out, byteC_set, ← Hl'.out] at this
          rw [Hp.out] at this
          simpa using this
        · exact qB.set_other ⟨bM, k, none⟩ (by dsimp only; omega) _
        · exact ((pm1.kept qg (by intro e; cases e; exact nmB rfl)).set ⟨bM, k, none⟩ (by dsimp only; omega) _)
        · refine (pg1.trans (Chg.of_grown (Y := fun b => b = bM ∨ b = bB) qg (fun b e => by cases e; exact .inr rfl)) (fun b h => .inl h)).trans (Chg.of_grown (Y := fun b => b = bM ∨ b = bB) (r := some bM) ⟨rfl, rfl, rfl, by simp, fun j _ hne => Below.heap_setCell _ _ _ j (fun e => hne (by rw [e]))⟩ (fun b e => by cases e; exact .inl rfl)) (fun b h => .inl h)
      case measure => simp [intOf]; omega
    · obtain rfl : k = l.length := by omega
      go_wp2
      go_end0
      exact ⟨⟨_, rfl⟩, pB, pM, pg⟩
end Go.Proofs.YtidjljldhdckiaaGreatDoor
