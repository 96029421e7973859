/- Package scast: made. -/
import Derived.Test.YtidjljldhdckiaaGreatDoorJScast1
import Derived.Lib.BufferWrite
import Derived.Deep.WholeRow
namespace Go.Proofs.YtidjljldhdckiaaGreatDoor
open Go.RowKit
attribute [local go_sem ↓] Go.wp_at_zero Go.wp_at_succ

/-- A copy, at the operation, by its run. -/
theorem wpList_copy_by {P : Program} {w : World} {ops : Array Oper} {rest : List Oper} {o : Oper} {a : Act} {Q : Exit → Act → World → Prop} (hgd : o.guard = none) (d s : Operand) (dT sT : TypeId)
    (ho : o.op = .call { callee := .builtin .copy, args := #[d, s], argTypes := #[dT, sT] }) (x y v : Value) (w' : World) (hd : a.eval d = x) (hs : a.eval s = y)
    (hrun : (Builtin.copy_ #[dT, sT] o.type #[x, y]).run P w = .ok v w') (h : wpList P ops Q rest (a.put o.dst v) w') : wpList P ops Q (o :: rest) a w := by
  refine wpList_plain hgd fun K hK => ?_
  unfold Oper.wp
  simp [execOp, ho, resolve, invoke, builtin, hd, hs, hrun, Result.andThen]
  exact hK _ _ h

/-- A new block of bytes takes a string over. -/
theorem copy_str (w : World) (l : List UInt8) (ty : TypeId) :
    (Builtin.copy_ #[67, 9] ty #[.slice (some ⟨w.heap.size, 0, none⟩) l.length l.length, .string (bs l)]).run Tryz.prog (w.alloc (.cells (ubs l.length fun _ => 0).toArray 5)) =
      .ok (.int .i64 (l.length : Int)) (w.alloc (.cells (byteC l).toArray 5)) := by
  have h := Lib.run_copy_row_string (P := Tryz.prog) (w.alloc (.cells (ubs l.length fun _ => 0).toArray 5)) 67 9 ty 5 w.heap.size 0 l.length l.length (bs l) (ubs l.length fun _ => 0).toArray 5 Tryz.underlying67 (by kernel_rfl)
    (heap_alloc_new w _) (by rw [bs_size]; exact Nat.le_refl _) (by rw [bs_size]; simp [ubs_length])
  rw [h]
  rw [bs_size]
  have e : (List.take 0 (ubs l.length fun _ => 0).toArray.toList ++ Lib.byteCells (bs l).data.toList ++ List.drop (0 + l.length) (ubs l.length fun _ => 0).toArray.toList) = byteC l := by
    rw [Nat.zero_add, List.drop_eq_nil_of_le (by simp [ubs_length])]
    simp
    rfl
  rw [e, World.setRow_alloc_new]
  rfl

theorem At.chg {Y : Nat → Prop} {w w' : World} {a : Option Addr} {cs : List Value} (h : At w a cs) (hc : Chg Y w w') (hy : ∀ b o, a = some ⟨b, o, none⟩ → ¬ Y b) : At w' a cs := by
  rcases h with h | ⟨b, o, ha, hcs⟩
  · exact .inl h
  · refine .inr ⟨b, o, ha, fun j hj => ?_⟩
    have h1 := hcs j hj
    rw [List.getElem?_eq_getElem hj] at h1 ⊢
    exact hc.cell h1 (hy b o ha)
theorem keysL_len (v d : Int) : ∀ l ∈ keysL v d, l.length ≤ 9 := by
  intro l hl
  unfold keysL prodsL at hl
  rw [List.mem_map] at hl
  obtain ⟨x, hx, rfl⟩ := hl
  split at hx
  · rename_i h
    rw [List.length_map, rowsL_length _ _ x hx]; omega
  · cases hx

set_option maxHeartbeats 2000000 in
set_option maxRecDepth 100000 in
theorem smade_any (v d : Int) (bB nB bm gf : Nat) (lb : Array Value) (fv fd : Int) (a : Option Addr) (capF : Nat) (raws : List Raw) (J : Nat → World → Prop) (w : World)
    (hr : raws.length = (keysL fv fd).length) (ha : At w a (raws.flatMap numC)) (hab : ∀ b o, a = some ⟨b, o, none⟩ → b ≠ bB) (hac : ∀ b o, a = some ⟨b, o, none⟩ → b < w.heap.size)
    (eg : ∀ args w, (callFunc gf args).run Tryz.prog w = .ok (.enter gf args) w) (hJb : ∀ k W W', J k W → Chg (fun b => w.heap.size ≤ b) W W' → J k W')
    (hcl : ∀ k (hk : k < (keysL fv fd).length) (hk2 : k < raws.length) W bM, J k W → Blk W bM 5 (byteC (keysL fv fd)[k]) → w.heap.size ≤ bM →
      Calls Tryz.prog gf (#[.slice (some ⟨bM, 0, none⟩) (keysL fv fd)[k].length (keysL fv fd)[k].length, .agg #[.bool raws[k].1, .string (bs raws[k].2.1), .int .i64 raws[k].2.2]] ++ lb) W fun e w' => (∃ r, e = .returned r) ∧ J (k + 1) w' ∧ Chg (fun b => b = bM ∨ b = bB) W w')
    (hbB : bB < w.heap.size) (h0 : J 0 w) :
    Calls Tryz.prog 23 #[.agg #[.int .i64 v, .int .i64 d, .slice (some ⟨bB, 0, none⟩) nB nB, .map (some bm)], .agg #[.int .i64 fv, .int .i64 fd, .slice a raws.length capF], .func (.func gf) #[] lb] w fun e w' =>
      e = .returned (.agg #[.int .i64 v, .int .i64 d, .slice (some ⟨bB, 0, none⟩) nB nB]) ∧ J (keysL fv fd).length w' ∧ Chg (fun b => b = bB) w w' := by
  have hlen := keysL_len fv fd
  have hK5 := keysL_length fv fd
  have hPr := products_any fv fd
  have ePr : (prodsL fv fd).map (fun x => Value.string (ex x)) = (keysL fv fd).map (fun l => Value.string (bs l)) := by unfold keysL; rw [List.map_map]; rfl
  have eLn : (prodsL fv fd).length = (keysL fv fd).length := by unfold keysL; rw [List.length_map]
  rw [ePr, eLn] at hPr
  generalize keysL fv fd = xs at *
  clear ePr eLn
  have HPr := Lib.hid hPr; have Hlen := Lib.hid hlen; have Hcl := Lib.hid hcl; have HJb := Lib.hid hJb; have Ha0 := Lib.hid ha; have Hab := Lib.hid hab; have Hac := Lib.hid hac; have Heg := Lib.hid eg; have Hrl := Lib.hid hr; clear hPr hlen hcl hJb ha hab hac eg hr
  obtain ⟨W, hW⟩ : ∃ W, ((w.alloc (.cells #[.int .i64 v, .int .i64 d, .slice (some ⟨bB, 0, none⟩) nB nB, .map (some bm)] 64)).alloc (.cells #[.int .i64 fv, .int .i64 fd, .slice a raws.length capF] 24)).alloc (.cells #[.int .i64 0, .int .i64 0, .slice none 0 0] 24) = W := ⟨_, rfl⟩
  have Hb : Hid (Below w.heap.size w W) := by rw [← hW]; exact (((Below.refl _ _).alloc (Nat.le_refl _) _).alloc (by simp) _).alloc (by simp <;> omega) _
  have Hx : Hid (Blk W w.heap.size 64 [.int .i64 v, .int .i64 d, .slice (some ⟨bB, 0, none⟩) nB nB, .map (some bm)]) := by rw [← hW]; exact ((Blk.new _ _ _).alloc _).alloc _
  have Hf : Hid (Blk W (w.heap.size + 1) 24 [.int .i64 fv, .int .i64 fd, .slice a raws.length capF]) := by rw [← hW]; exact (Blk.newAt _ _ _ (by simp)).alloc _
  have Hr : Hid (Blk W (w.heap.size + 1 + 1) 24 [.int .i64 0, .int .i64 0, .slice none 0 0]) := by rw [← hW]; exact Blk.newAt _ _ _ (by simp)
  have f0 : W.cell? ⟨w.heap.size + 1, 0, none⟩ = some (.int .i64 fv) := Hf.out.cell 0
  have f1 : W.cell? ⟨w.heap.size + 1, 1, none⟩ = some (.int .i64 fd) := Hf.out.cell 1
  go_enter Tryz.func23, Tryz.ntmps23
  go_wp2_with fail
  refine (HPr.out _).mono ?_
  rintro e w1 ⟨a1, cap, rfl, hat, hba, hbn⟩
  have lz1 := Hx.out.lt; have lz2 := Hf.out.lt; have lz3 := Hr.out.lt
  clear f0 f1
  replace Hx := Lib.hid (Hx.out.below hbn); replace Hf := Lib.hid (Hf.out.below hbn); replace Hr := Lib.hid (Hr.out.below hbn)
  replace Hb := Lib.hid (bnext Hb.out hbn)
  have Hat := Lib.hid hat; have Hba := Lib.hid hba
  have hszW := hbn.size
  clear hat hba hbn
  have hJ1 : J 0 w1 := HJb.out _ _ _ h0 (Chg.of_below Hb.out)
  have HJ1 := Lib.hid hJ1; clear hJ1 h0
  go_wp2_with fail
  go_loopw [16] (fun i wr => ∃ k : Nat, k ≤ xs.length ∧ i = .int .i64 (k : Int) ∧ Blk wr w.heap.size 64 [.int .i64 v, .int .i64 d, .slice (some ⟨bB, 0, none⟩) nB nB, .map (some bm)] ∧ Blk wr (w.heap.size + 1) 24 [.int .i64 fv, .int .i64 fd, .slice a raws.length capF] ∧ Blk wr (w.heap.size + 1 + 1) 24 [.int .i64 0, .int .i64 0, .slice none 0 0] ∧ J k wr ∧ At wr a1 (xs.map fun l => Value.string (bs l)) ∧ At wr a (raws.flatMap numC) ∧ Chg (fun b => b = bB) w wr) (fun i _ => xs.length - (intOf i).toNat)
  case atStart => exact ⟨0, Nat.zero_le _, rfl, Hx.out, Hf.out, Hr.out, HJ1.out, Hat.out, Ha0.out.below Hb.out, Chg.of_below Hb.out⟩
  case round =>
    obtain ⟨k, hk, rfl, pX, pF, pR, pJ, pA1, pA, pg⟩ := hrel
    by_cases hlt : k < xs.length
    · have hat3 : At wr a1 (xs.flatMap fun l => [Value.string (bs l)]) := by rw [flat_one]; exact pA1
      obtain ⟨b1, o1, hab1, hcs⟩ := hat3.elem (f := fun l => [Value.string (bs l)]) (sz := 1) (fun _ => rfl) (by decide) k hlt
      have hc0 : wr.cell? ⟨b1, o1 + k, none⟩ = some (.string (bs xs[k])) := by simpa using hcs 0 (by decide)
      have hix := ixs (t := 69) (e := 9) (sz := 1) Tryz.underlying69 (by kernel_rfl) xs.length cap k (k : Int) hab1 hlt rfl
      rw [Nat.mul_one] at hix
      clear hat3 hcs
      have hk2 : k < raws.length := by rw [Hrl.out]; exact hlt
      obtain ⟨l, hl⟩ : ∃ l, xs[k] = l := ⟨_, rfl⟩
      have hll : l.length ≤ 9 := by rw [← hl]; exact Hlen.out _ (List.getElem_mem hlt)
      obtain ⟨x, hx⟩ : ∃ x, raws[k] = x := ⟨_, rfl⟩
      obtain ⟨W2, hW2⟩ : ∃ W2, wr.alloc (.cells (byteC l).toArray 5) = W2 := ⟨_, rfl⟩
      have hb2 : Below wr.heap.size wr W2 := by rw [← hW2]; exact (Below.refl _ _).alloc (Nat.le_refl _) _
      have qM : Blk W2 wr.heap.size 5 (byteC l) := by rw [← hW2]; exact Blk.new _ _ _
      have hcl1 := Hcl.out k hlt hk2 W2 wr.heap.size (HJb.out _ _ _ pJ (Chg.of_below hb2)) (by rw [hl]; exact qM) (by have := pX.lt; omega)
      rw [hl, hx] at hcl1
      rw [hl] at hc0
      obtain ⟨b2, o2, hab2, hcs2⟩ := (pA.below hb2).elem (f := numC) (sz := 3) (fun _ => rfl) (by decide) k hk2
      rw [hx] at hcs2
      have y0 : W2.cell? ⟨b2, o2 + k * 3, none⟩ = some (.bool x.1) := by simpa [numC] using hcs2 0 (by decide)
      have y1 : W2.cell? ⟨b2, o2 + k * 3 + 1, none⟩ = some (.string (bs x.2.1)) := by simpa [numC] using hcs2 1 (by decide)
      have y2 : W2.cell? ⟨b2, o2 + k * 3 + 2, none⟩ = some (.int .i64 x.2.2) := by simpa [numC] using hcs2 2 (by decide)
      have hix2 := ixs (t := 22) (e := 36) (sz := 3) Tryz.underlying22 (by kernel_rfl) raws.length capF k (k : Int) hab2 hk2 rfl
      have f2 : W2.cell? ⟨w.heap.size + 1, 2, none⟩ = some (.slice a raws.length capF) := (pF.below hb2).cell 2
      have hmk := mk_bytes (l.length : Int) l.length rfl (by omega)
      have hcp := copy_str wr l
      rw [hW2] at hcp
      have Hcl1 := Lib.hid hcl1
      have hbsz : (bs l).size = l.length := bs_size l
      have Heg2 := Heg.out
      clear hcl1 hcs2 hl hx
      go_wp2_with (first | (at_builtin; refine wpList_copy_by rfl _ _ _ _ rfl _ _ _ _ rfl rfl (hcp _) ?_))
      refine Hcl1.out.mono ?_
      rintro e' w3 ⟨⟨r, rfl⟩, qJ, qg⟩
      have c2 : Chg (fun b => b = bB) wr w3 := (Chg.of_below hb2).trans qg (fun b h => by rcases h with h | h; exact .inr (by omega); exact .inl h)
      have hX2 := c2.blk pX (by omega)
      have hF2 := c2.blk pF (by omega)
      have hR2 := c2.blk pR (by omega)
      have hA2 := pA.chg c2 Hab.out
      have hA1 := pA1.chg c2 (fun b o e h => by have := Hba.out b o e; omega)
      have hG2 := pg.trans c2 (fun b h => .inl h)
      have H1 := Lib.hid hX2; have H2 := Lib.hid hF2; have H3 := Lib.hid hR2; have H4 := Lib.hid hA2; have H5 := Lib.hid hA1; have H6 := Lib.hid hG2
      clear hab2 hab1 y0 y1 y2 hix hix2 f2 hc0 hcp hX2 hF2 hR2 hA2 hA1 hG2
      go_wp2
      go_roundw
      case rel => exact ⟨k + 1, by omega, by go_num, H1.out, H2.out, H3.out, qJ, H5.out, H4.out, H6.out⟩
      case measure => simp [intOf]; omega
    · obtain rfl : k = xs.length := by omega
      have x0 : wr.cell? ⟨w.heap.size, 0, none⟩ = some (.int .i64 v) := pX.cell 0
      have x1 : wr.cell? ⟨w.heap.size, 1, none⟩ = some (.int .i64 d) := pX.cell 1
      have x2 : wr.cell? ⟨w.heap.size, 2, none⟩ = some (.slice (some ⟨bB, 0, none⟩) nB nB) := pX.cell 2
      have r0 : wr.cell? ⟨w.heap.size + 1 + 1, 0, none⟩ = some (.int .i64 0) := pR.cell 0
      have r1 : wr.cell? ⟨w.heap.size + 1 + 1, 1, none⟩ = some (.int .i64 0) := pR.cell 1
      have r2 : wr.cell? ⟨w.heap.size + 1 + 1, 2, none⟩ = some (.slice none 0 0) := pR.cell 2
      have fr0 := pR.free 0; have fr1 := pR.free 1; have fr2 := pR.free 2
      go_wp2
      have cst : Chg (fun b => b = w.heap.size + 1 + 1) wr (((wr.setCell ⟨w.heap.size + 1 + 1, 0, none⟩ (.int .i64 v)).setCell ⟨w.heap.size + 1 + 1, 1, none⟩ (.int .i64 d)).setCell ⟨w.heap.size + 1 + 1, 2, none⟩ (.slice (some ⟨bB, 0, none⟩) nB nB)) :=
        ⟨rfl, rfl, rfl, by simp, fun j _ hne => (Below.heap_setCell _ _ _ j hne).trans ((Below.heap_setCell _ _ _ j hne).trans (Below.heap_setCell _ _ _ j hne))⟩
      refine bodyPost_ret (v := .agg #[.int .i64 v, .int .i64 d, .slice (some ⟨bB, 0, none⟩) nB nB]) (by simp [results, Tryz.results23, go_sem, r0, r1, r2]) rfl ⟨rfl, HJb.out _ _ _ pJ (cst.mono (fun b _ h => by omega)), pg.trans cst (fun b h => .inr (by omega))⟩
end Go.Proofs.YtidjljldhdckiaaGreatDoor
