/- Package simp: Products. -/
import Derived.Test.YtidjljldhdckiaaGreatDoorJRows2
import Derived.Maps.AppendAt
import Derived.Maps.OwnIn
namespace Go.Proofs.YtidjljldhdckiaaGreatDoor
open Go.RowKit Go.Shelf

theorem Tryz.infoS : (Tryz.prog.info? 9).map (fun i => (i.zero, i.size, i.bytes)) = some (some (.string (bs [])), 1, 16) := by kernel_rfl

/-- All products of so many variables' corners, of a degree; none where there may be none. -/
def prodsL (v d : Int) : List (List Nat) := if 1 ≤ v ∧ v ≤ 8 ∧ 0 ≤ d ∧ d ≤ 20 ∧ cnt v.toNat d.toNat ≤ 512 then rowsL (v.toNat + 1) d.toNat else []

theorem ownsRow_chg {Y : Nat → Prop} {W W' : World} {base : Nat} {e : TypeId} {size : Nat} {v : Value} {n : Nat} {xs : List Value} (h : W.ownsRow base e size v n xs) (hc : Chg Y W W') (hy : ∀ b, v.ownBlock = some b → ¬ Y b) : W'.ownsRow base e size v n xs := by
  refine ⟨h.1, ?_⟩
  rcases h.2 with h1 | ⟨g, cap, cur, rfl, hb, hg, h2, h3, h4, h5⟩
  · exact .inl h1
  · exact .inr ⟨g, cap, cur, rfl, hb, (hc.block g (Array.getElem?_eq_some_iff.1 hg).1 (hy g rfl)).trans hg, h2, h3, h4, h5⟩
/-- What a slice of one's own holds. -/
theorem ownsRow_at {W : World} {base : Nat} {e : TypeId} {size : Nat} {v : Value} {n : Nat} {xs : List Value} (h : W.ownsRow base e size v n xs) : ∃ a cap, v = .slice a n cap ∧ At W a xs ∧ ∀ b o, a = some ⟨b, o, none⟩ → base ≤ b := by
  rcases h.2 with ⟨rfl, rfl⟩ | ⟨g, cap, cur, rfl, hb, hg, h2, h3, h4, h5⟩
  · refine ⟨none, 0, rfl, .inl ?_, fun b o e => by cases e⟩
    have := h.1; simpa using this
  · refine ⟨_, cap, rfl, .inr ⟨g, 0, rfl, fun j hj => ?_⟩, fun b o e => by cases e; exact hb⟩
    have := h.cells (g := g) rfl j (xs[j]) (by simp [hj])
    rw [Nat.zero_add]
    have e2 : ((⟨g, 0, none⟩ : Addr).add j) = ⟨g, j, none⟩ := by simp [Addr.add]; omega
    rw [e2] at this
    rw [this]; simp [hj]

/-- What the loop that collects the products minds. -/
def prodI (b n₀ : Nat) (pre : List (List Nat)) (Z : Nat → Prop) (W : World) : Prop :=
  ∃ v, Blk W b 69 [v] ∧ n₀ ≤ b ∧ n₀ ≤ W.heap.size ∧ W.ownsRow n₀ 9 1 v pre.length (pre.map fun x => .string (ex x)) ∧ Z = fun k => k = b ∨ v.ownBlock = some k
theorem prodI_minds (b n₀ : Nat) (pre : List (List Nat)) : Minds (prodI b n₀ pre) := by
  rintro Z W W' ⟨v, hB, h1, h2, ho, rfl⟩ hc
  exact ⟨v, hc.blk hB (fun h => h (.inl rfl)), h1, Nat.le_trans h2 hc.size, ownsRow_chg ho hc (fun k hk h => h (.inr hk)), rfl⟩
theorem prodI_lies (b n₀ : Nat) (pre : List (List Nat)) : Lies (prodI b n₀ pre) := by
  rintro Z W ⟨v, hB, h1, h2, ho, rfl⟩ k (rfl | hk)
  · exact hB.lt
  · exact (ho.lt k hk).2

attribute [local go_sem] Oper.semAt_some

set_option maxHeartbeats 4000000 in
set_option maxRecDepth 100000 in
theorem products_main (V D : Nat) (w : World) (hV : 1 ≤ V) (hV2 : V ≤ 8) (hD : D ≤ 20) (hc : cnt V D ≤ 512) :
    Calls Tryz.prog 26 #[.int .i64 (V : Int), .int .i64 (D : Int)] w fun e w' => ∃ v, e = .returned v ∧ w'.ownsRow w.heap.size 9 1 v (rowsL (V + 1) D).length ((rowsL (V + 1) D).map fun x => .string (ex x)) ∧ Below w.heap.size w w' := by
  obtain ⟨i0, hi, hz0, hz1, hz2⟩ := info_parts Tryz.infoS
  have hcl : (rowsL (V + 1) D).length ≤ 512 := by rw [rowsL_count]; exact hc
  have hm1 : decide (1 ≤ (V : Int) ∧ (V : Int) ≤ 8 ∧ 0 ≤ (D : Int) ∧ (D : Int) ≤ 20) = true := by simp; omega
  have hw1 : IntKind.i64.wrap ((V : Int) + 1) = ((V + 1 : Nat) : Int) := by rw [IntKind.wrap_i64]; omega
  have hmin : ((min (cnt (V + 1 - 1) D) 513 : Nat) : Int) ≤ 512 := by rw [Nat.add_sub_cancel]; omega
  generalize hM : ((min (cnt (V + 1 - 1) D) 513 : Nat) : Int) = M at hmin
  generalize hV1 : ((V + 1 : Nat) : Int) = V1 at hw1
  refine callsIn_wide (n := 0).1 ?_
  refine callsIn_of_wp_marks Tryz.func26 rfl trivial ?_ rfl
  simp only [Tryz.ntmps26, List.size_toArray, List.length_cons, List.length_nil, Nat.reduceAdd, Nat.reduceSub, Array.replicate_succ, Array.replicate_zero, List.push_toArray, List.append_toArray, List.nil_append, List.cons_append]
  gi_wp2
  refine ⟨trivial, rfl, ?_⟩
  refine (callsIn_wide.2 (may_any V D w)).mono ?_
  rintro e w' ⟨rfl, rfl⟩
  rw [hm1]
  gi_wp2
  refine ⟨trivial, rfl, ?_⟩
  rw [← hV1]
  refine (callsIn_wide.2 (many_any (V + 1) D w' (by omega) (by omega) hD)).mono ?_
  rintro e w ⟨rfl, rfl⟩
  rw [hM, hV1]
  gi_wp2
  refine ⟨trivial, rfl, ?_⟩
  obtain ⟨W0, hW0⟩ : ∃ W0, w.alloc (.cells #[.slice none 0 0] 69) = W0 := ⟨_, rfl⟩
  have hB0 : Blk W0 w.heap.size 69 [.slice none 0 0] := by rw [← hW0]; exact Blk.new _ _ _
  have hbl0 : Below w.heap.size w W0 := by rw [← hW0]; exact (Below.refl _ _).alloc (Nat.le_refl _) _
  rw [hW0]
  refine (callsIn_wide.2 (rows_any V1 D W0)).mono ?_
  rintro e w1 ⟨rfl, hB1, hB2, hbel⟩
  have hl0 := hB0.lt
  have hl2 := hB2.lt
  gi_wp2
  refine wpIn_range (gf := 66) (lb := #[.pointer (some ⟨W0.heap.size, 0, none⟩), .pointer (some ⟨W0.heap.size + 1, 0, none⟩)]) rfl (enters_of Tryz.func66 (by kernel_rfl) rfl)
    (rows_gives V (by omega) W0.heap.size (W0.heap.size + 1) D (by omega)) (fun _ => rfl) (prodI w.heap.size w.heap.size) (prodI_minds _ _) (prodI_lies _ _)
    (fun b => b = w.heap.size ∨ (Value.slice none 0 0).ownBlock = some b) ?h0 ?hok ?a1 ?assign ?body ?done
  case a1 => exact fun x => { tmps := #[.int .i64 (V : Int), .int .i64 (D : Int), undef, undef, .slice none 0 0, .pointer (some ⟨w.heap.size, 0, none⟩), .string (ex x), .int .i64 (V : Int), .int .i64 (D : Int), .bool true, .bool false, .bool false, .int .i64 (V : Int), .int .i64 V1, .int .i64 (D : Int), .int .i64 M, .bool (decide (512 < M)), .bool (decide (512 < M)), .int .i64 (V : Int), .int .i64 V1, .int .i64 (D : Int), .func (.func 66) #[] #[.pointer (some ⟨W0.heap.size, 0, none⟩), .pointer (some ⟨W0.heap.size + 1, 0, none⟩)], .string (ex x), undef, undef, undef, undef, undef], defers := [] }
  case h0 => exact ⟨_, hB0.below hbel, Nat.le_refl _, Nat.le_trans hbl0.size hbel.size, World.ownsRow_nil _ _ _ _, rfl⟩
  case hok =>
    intro W1 hg
    have hbb : Below w1.heap.size w1 W1 := ⟨hg.os, hg.tape, hg.output, hg.size, fun k hk => hg.block k hk (fun e => by cases e)⟩
    refine ⟨by rw [hV1]; exact hB1.below hbb, hB2.below hbb, ?_, ?_⟩
    · rintro ((h | h) | h | h)
      · omega
      · simp [Value.ownBlock] at h
      · omega
      · omega
    · rintro ((h | h) | h | h)
      · omega
      · simp [Value.ownBlock] at h
      · omega
      · omega
  case assign =>
    intro m' l' x W' K hK
    gi_wp2
    exact hK
  case body =>
    rintro m' l' pre x Zb Wb ⟨v, hBb, hn1, hn2, ho, rfl⟩ hpre hzb hszb
    have hplen : pre.length + 1 ≤ 512 := by have := hpre.length_le; simp at this; omega
    obtain ⟨X, hX⟩ : ∃ X, ex x = X := ⟨_, rfl⟩
    rw [hX]
    have HX := Lib.hid hX; clear hX
    obtain ⟨W2, hW2⟩ : ∃ W2, Wb.alloc (.cells #[.string X] 9) = W2 := ⟨_, rfl⟩
    have hb2 : Below Wb.heap.size Wb W2 := by rw [← hW2]; exact (Below.refl _ _).alloc (Nat.le_refl _) _
    have hN2 : Blk W2 Wb.heap.size 9 [.string X] := by rw [← hW2]; exact Blk.new _ _ _
    have ho2 : W2.ownsRow w.heap.size 9 1 v pre.length (pre.map fun x => .string (ex x)) := by rw [← hW2]; exact ho.alloc _
    have hBb2 := hBb.below hb2
    have c0 : Wb.cell? ⟨w.heap.size, 0, none⟩ = some v := hBb.cell 0
    have lb := hBb.lt
    have hnews : ∀ j u, ([.string X] : List Value)[j]? = some u → W2.cell? ((⟨Wb.heap.size, 0, none⟩ : Addr).add j) = some u := by
      intro j u hj
      cases j with
      | zero => simp at hj; subst hj; exact hN2.cell 0
      | succ j => simp at hj
    have hbv : some w.heap.size ≠ v.ownBlock := Boxed.not_row (t := 69) hBb (by decide) ho
    gi_wp2_with (gi_at_builtin; refine wpListIn_append_own_at _ rfl _ _ 69 rfl w.heap.size 9 i0 (.string (bs [])) 1 16 Tryz.underlying69 hi hz0 hz1 hz2 rfl (by decide) v pre.length _ rfl ho2 ⟨Wb.heap.size, 0, none⟩ 1 1 [.string X] rfl rfl hnews (by simp [Value.oneCell']) (by simp [maxLen]; omega) (by omega) (by have := hb2.size; omega) ?_; intro v' w3 ho3 hg3 _ hob; obtain ⟨g', cap', rfl⟩ := ownsRow_succ ho3; have hB3 : Blk w3 w.heap.size 69 [v] := (hg3.block w.heap.size hBb2.lt hbv).trans hBb2; have c3 : w3.cell? ⟨w.heap.size, 0, none⟩ = some v := hB3.cell 0; have f3 : w3.frozen? ⟨w.heap.size, 0, none⟩ = false := hB3.free 0)
    have hnb : some w.heap.size ≠ (Value.slice (some ⟨g', 0, none⟩) (pre.length + 1) cap').ownBlock := Boxed.not_row (t := 69) hB3 (by decide) ho3
    refine ⟨_, ⟨_, hB3.set 0 _, hn1, ?_, ?_, rfl⟩, ?_, ?_⟩
    · exact Nat.le_trans hn2 (Nat.le_trans hb2.size (Nat.le_trans hg3.size (grownBy_setCell' w3 _ _).size))
    · have := ho3.kept (grownBy_setCell' w3 w.heap.size (Value.slice (some ⟨g', 0, none⟩) (pre.length + 1) cap')) (.inr hnb.symm)
      rw [← HX.out] at this
      simpa using this
    · refine ((Chg.of_below hb2).trans (Chg.of_grown (Y := fun k => k = w.heap.size ∨ v.ownBlock = some k) hg3 (fun b e => .inr e)) (fun b h => .inl h)).trans (Chg.of_grown (Y := fun k => k = w.heap.size ∨ v.ownBlock = some k) (grownBy_setCell' w3 w.heap.size _) (fun b e => by cases e; exact .inl rfl)) (fun b h => .inl h)
    · rintro k (h | h)
      · exact .inl (.inl h)
      · rcases hob with h1 | h1
        · rw [h1] at h; exact .inl (.inr h)
        · rw [h1] at h; cases h; exact .inr hb2.size
  case done =>
    rintro W3 ⟨Z3, ⟨⟨v, hBb, hn1, hn2, ho, rfl⟩, hK, hz3⟩, hc3, hz4⟩
    have c0 : W3.cell? ⟨w.heap.size, 0, none⟩ = some v := hBb.cell 0
    obtain ⟨a0, cap0, rfl, hat, _⟩ := ownsRow_at ho
    gi_wp2
    refine leaves_marks [w1.heap.size] W3 (by simp) (fun D hD => by simp at hD; subst hD; exact hK) (fun w' hc => ?_)
    refine ⟨_, results_tmp rfl _ _ _, _, rfl, ownsRow_chg ho hc (fun k hk hm => ?_), ?_⟩
    · simp at hm; subst hm
      rcases hz3 _ (.inr hk) with (h1 | h1) | h1
      · omega
      · simp [Value.ownBlock] at h1
      · omega
    · have b1 : Below w.heap.size w1 W3 := hc3.below (by omega) (fun b h => by rcases h with h | h; omega; simp [Value.ownBlock] at h)
      have b2 : Below w.heap.size W3 w' := hc.below hn2 (fun b h => by simp at h; omega)
      exact ((hbl0.trans (hbel.mono (by omega))).trans b1).trans b2

section
attribute [local go_sem ↓] Go.wp_at_zero Go.wp_at_succ
theorem products_not (v d : Int) (w : World) (h : ¬ (1 ≤ v ∧ v ≤ 8 ∧ 0 ≤ d ∧ d ≤ 20)) :
    Calls Tryz.prog 26 #[.int .i64 v, .int .i64 d] w fun e w' => e = .returned (.slice none 0 0) ∧ w' = w := by
  have h1 : decide (1 ≤ v ∧ v ≤ 8 ∧ 0 ≤ d ∧ d ≤ 20) = false := decide_eq_false h
  go_enter Tryz.func26, Tryz.ntmps26
  go_wp2_with fail
  refine (may_any v d w).mono ?_
  rintro e w' ⟨rfl, rfl⟩
  rw [h1]
  go_wp2
  go_ret
  exact ⟨rfl, rfl⟩
theorem products_big (V D : Nat) (w : World) (hV : 1 ≤ V) (hV2 : V ≤ 8) (hD : D ≤ 20) (hc : ¬ cnt V D ≤ 512) :
    Calls Tryz.prog 26 #[.int .i64 (V : Int), .int .i64 (D : Int)] w fun e w' => e = .returned (.slice none 0 0) ∧ w' = w := by
  have hm1 : decide (1 ≤ (V : Int) ∧ (V : Int) ≤ 8 ∧ 0 ≤ (D : Int) ∧ (D : Int) ≤ 20) = true := by simp; omega
  have hw1 : IntKind.i64.wrap ((V : Int) + 1) = ((V + 1 : Nat) : Int) := by rw [IntKind.wrap_i64]; omega
  have hmin : ((min (cnt (V + 1 - 1) D) 513 : Nat) : Int) = 513 := by rw [Nat.add_sub_cancel]; omega
  generalize hV1 : ((V + 1 : Nat) : Int) = V1 at hw1
  go_enter Tryz.func26, Tryz.ntmps26
  go_wp2_with fail
  refine (may_any V D w).mono ?_
  rintro e w' ⟨rfl, rfl⟩
  rw [hm1]
  go_wp2_with fail
  rw [← hV1]
  refine (many_any (V + 1) D w' (by omega) (by omega) hD).mono ?_
  rintro e w ⟨rfl, rfl⟩
  rw [hmin]
  go_wp2
  go_ret
  exact ⟨rfl, rfl⟩
end

theorem products_any (v d : Int) (w : World) :
    Calls Tryz.prog 26 #[.int .i64 v, .int .i64 d] w fun e w' => ∃ a cap, e = .returned (.slice a (prodsL v d).length cap) ∧ At w' a ((prodsL v d).map fun x => .string (ex x)) ∧ (∀ b o, a = some ⟨b, o, none⟩ → w.heap.size ≤ b) ∧ Below w.heap.size w w' := by
  unfold prodsL
  by_cases h : 1 ≤ v ∧ v ≤ 8 ∧ 0 ≤ d ∧ d ≤ 20
  · obtain ⟨V, rfl⟩ : ∃ V : Nat, v = V := ⟨v.toNat, by omega⟩
    obtain ⟨D, rfl⟩ : ∃ D : Nat, d = D := ⟨d.toNat, by omega⟩
    simp only [Int.toNat_natCast]
    by_cases hc : cnt V D ≤ 512
    · rw [if_pos ⟨h.1, h.2.1, h.2.2.1, h.2.2.2, hc⟩]
      refine (products_main V D w (by omega) (by omega) (by omega) hc).mono ?_
      rintro e w' ⟨v, rfl, ho, hb⟩
      obtain ⟨a, cap, rfl, hat, hba⟩ := ownsRow_at ho
      exact ⟨a, cap, rfl, hat, hba, hb⟩
    · rw [if_neg (fun h2 => hc h2.2.2.2.2)]
      refine (products_big V D w (by omega) (by omega) (by omega) hc).mono ?_
      rintro e w' ⟨rfl, rfl⟩
      exact ⟨none, 0, rfl, At.nil _ _, (fun b o e => by cases e), Below.refl _ _⟩
  · rw [if_neg (fun h2 => h ⟨h2.1, h2.2.1, h2.2.2.1, h2.2.2.2.1⟩)]
    refine (products_not v d w h).mono ?_
    rintro e w' ⟨rfl, rfl⟩
    exact ⟨none, 0, rfl, At.nil _ _, (fun b o e => by cases e), Below.refl _ _⟩
end Go.Proofs.YtidjljldhdckiaaGreatDoor
