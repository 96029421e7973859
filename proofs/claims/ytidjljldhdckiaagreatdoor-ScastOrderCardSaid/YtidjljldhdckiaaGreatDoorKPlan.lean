/- A statement whose order is open, walked in one order: what only reads is taken first; S is asked behind each operation but the last ones (J), for which everything else waits. -/
import Derived.Test.YtidjljldhdckiaaGreatDoorKWalk
import Derived.OrdersHeld
namespace Go.Proofs.YtidjljldhdckiaaGreatDoor
open Go.RowKit

section
variable {P : Program} {md : Region.Mode} {ops : Array Oper} {Q : Exit → Act → World → Prop} {S : World → Prop} {J : Nat → Bool}

/-- Whatever order comes; behind each operation of J the world meets S. -/
def wpAnyJ (P : Program) (md : Region.Mode) (ops : Array Oper) (Q : Exit → Act → World → Prop) (S : World → Prop) (J : Nat → Bool) : Nat → Array Bool → Act → World → Prop
  | 0, listed, a, w => Region.ready md ops listed = [] ∧ Q .normal a w
  | fuel + 1, listed, a, w =>
    (Region.ready md ops listed = [] → Q .normal a w) ∧
    ∀ i ∈ Region.ready md ops listed, wpOp P ops Q i (fun a' w' => (J i = true → S w') ∧ wpAnyJ P md ops Q S J fuel (listed.setIfInBounds i true) a' w') a w

theorem wpAny_of_J (fuel : Nat) : ∀ (listed : Array Bool) (a : Act) (w : World), wpAnyJ P md ops Q S J fuel listed a w → wpAny P md ops Q fuel listed a w := by
  induction fuel with
  | zero => intro _ _ _ h; exact h
  | succ n ih => intro _ _ _ h; exact ⟨h.1, fun i hi => wpOp_mono (fun a' w' h' => ih _ a' w' h'.2) (h.2 i hi)⟩

/-- Number j waits for number i, at once or through others. -/
def reach (md : Region.Mode) (ops : Array Oper) (i : Nat) : Nat → Nat → Bool
  | 0, _ => false
  | n + 1, j => match ops[j]? with
    | some oj => oj.after.any fun e => Region.binds md e && (e.on == i || reach md ops i n e.on)
    | none => false

/-- Those for which S is not asked wait for number i. -/
def waits (md : Region.Mode) (ops : Array Oper) (J : Nat → Bool) (i : Nat) : Bool :=
  (List.range ops.size).all fun j => j == i || J j || reach md ops i ops.size j

/-- What is listed has what it waits for listed. -/
def Closed (md : Region.Mode) (ops : Array Oper) (listed : Array Bool) : Prop :=
  ∀ (k : Nat) (ok : Oper), listed.getD k false = true → ops[k]? = some ok → ∀ e ∈ ok.after, Region.binds md e = true → listed.getD e.on false = true

theorem Closed.empty (n : Nat) : Closed md ops (Array.replicate n false) := by
  intro k ok h
  exfalso
  rw [Array.getD_eq_getD_getElem?, Array.getElem?_replicate] at h
  split at h <;> simp at h

theorem Closed.list {listed : Array Bool} (h : Closed md ops listed) {j : Nat} (hj : j ∈ Region.ready md ops listed) : Closed md ops (listed.setIfInBounds j true) := by
  obtain ⟨hjun, oj, hoj, hall⟩ := mem_ready.1 hj
  have up : ∀ n, listed.getD n false = true → (listed.setIfInBounds j true).getD n false = true := by
    intro n hn
    by_cases hjn : j = n
    · subst hjn
      rcases Nat.lt_or_ge j listed.size with h' | h'
      · simp [h']
      · simp [Array.getD_eq_getD_getElem?, Array.getElem?_eq_none h'] at hn
    · rw [getD_set_ne false hjn]; exact hn
  intro k ok hk hok e he hb
  by_cases hjk : j = k
  · subst hjk
    rw [hoj] at hok; cases hok
    exact up _ (hall e he hb)
  · rw [getD_set_ne false hjk] at hk
    exact up _ (h k ok hk hok e he hb)

theorem reach_listed {listed : Array Bool} (hc : Closed md ops listed) {i : Nat} (n : Nat) : ∀ (j : Nat) (oj : Oper), ops[j]? = some oj → (∀ e ∈ oj.after, Region.binds md e = true → listed.getD e.on false = true) → reach md ops i n j = true → listed.getD i false = true := by
  induction n with
  | zero => intro j oj _ _ h; cases h
  | succ n ih =>
    intro j oj hoj hall h
    unfold reach at h
    rw [hoj] at h
    simp only at h
    rw [Array.any_eq_true] at h
    obtain ⟨k, hk, h2⟩ := h
    simp only [Bool.and_eq_true, Bool.or_eq_true, beq_iff_eq] at h2
    have h3 := hall _ (Array.getElem_mem hk) h2.1
    rcases h2.2 with h4 | h4
    · rw [← h4]; exact h3
    · cases ho : ops[oj.after[k].on]? with
      | none =>
        cases n with
        | zero => cases h4
        | succ m => unfold reach at h4; rw [ho] at h4; cases h4
      | some ok => exact ih _ ok ho (hc _ ok h3 ho) h4

theorem waits_spec {listed : Array Bool} (hc : Closed md ops listed) {i : Nat} (h : waits md ops J i = true) (hiun : listed.getD i true = false) {j : Nat} (hj : j ∈ Region.ready md ops listed) (hne : j ≠ i) : J j = true := by
  obtain ⟨hjun, oj, hoj, hall⟩ := mem_ready.1 hj
  unfold waits at h
  rw [List.all_eq_true] at h
  have h1 := h j (List.mem_range.2 (Array.getElem?_eq_some_iff.1 hoj).1)
  simp only [Bool.or_eq_true, beq_iff_eq] at h1
  rcases h1 with (h1 | h1) | h1
  · exact absurd h1 hne
  · exact h1
  · have h2 := reach_listed hc _ j oj hoj hall h1
    rcases Nat.lt_or_ge i listed.size with h' | h'
    · simp [h'] at hiun h2; rw [hiun] at h2; cases h2
    · simp [Array.getD_eq_getD_getElem?, Array.getElem?_eq_none h'] at h2

theorem wpAnyJ_first {i : Nat} {oi : Oper} {v : Value} (hi : ops[i]? = some oi) (hsel : ∀ (j : Nat) (o : Oper) cs b, ops[j]? = some o → o.op ≠ .select cs b)
    (hQ : ∀ c a w, Q (.panic c) (a.put oi.dst v) w → Q (.panic c) a w) (hJ : waits md ops J i = true) (fuel : Nat) :
    ∀ (listed : Array Bool) (a : Act) (w : World), Closed md ops listed → Region.free md ops listed i = true → i ∈ Region.ready md ops listed → YieldsIf P ops S oi v a → S w →
      wpAnyJ P md ops Q S J fuel (listed.setIfInBounds i true) (a.put oi.dst v) w → wpAnyJ P md ops Q S J (fuel + 1) listed a w := by
  induction fuel with
  | zero =>
    intro listed a w _ _ hr hy hS H
    refine ⟨fun h => (by rw [h] at hr; cases hr), fun j hj => ?_⟩
    by_cases hji : j = i
    · subst hji; exact hy.wpOp hi hS ⟨fun _ => hS, H⟩
    · have := ready_mono hj hji
      rw [H.1] at this
      cases this
  | succ n ih =>
    intro listed a w hc hf hr hy hS H
    refine ⟨fun h => (by rw [h] at hr; cases hr), fun j hj => ?_⟩
    by_cases hji : j = i
    · subst hji; exact hy.wpOp hi hS ⟨fun _ => hS, H⟩
    · have h1 := H.2 j (ready_mono hj hji)
      obtain ⟨hjun, oj, hoj, hall⟩ := mem_ready.1 hj
      have hiun := (mem_ready.1 hr).1
      have hnot : ∀ e ∈ oj.after, Region.binds md e = true → e.on ≠ i := by
        intro e he hb heq
        have h2 := hall e he hb
        rw [heq] at h2
        rcases Nat.lt_or_ge i listed.size with h' | h'
        · simp [h'] at hiun h2; rw [hiun] at h2; cases h2
        · simp [Array.getElem?_eq_none h'] at h2
      have hjJ : J j = true := waits_spec hc hJ hiun hj hji
      have h2 := wpOp_putIf hoj (Region.free_spec hi hf j oj hoj hji hjun hnot) (fun cs b => hsel i oi cs b hi) (fun cs b => hsel j oj cs b hoj) hQ hy h1
      have hf' : Region.free md ops (listed.setIfInBounds j true) i = true := by
        unfold Region.free at hf ⊢
        rw [hi] at hf ⊢
        simp only [List.all_eq_true] at hf ⊢
        intro k hk
        have := hf k hk
        simp only [Bool.or_eq_true] at this ⊢
        rcases this with (h3 | h3) | h3
        · exact .inl (.inl h3)
        · refine .inl (.inr ?_)
          by_cases hjk : j = k
          · subst hjk
            rcases Nat.lt_or_ge j listed.size with h' | h'
            · simp [h']
            · simp
          · rw [getD_set_ne true hjk]; exact h3
        · exact .inr h3
      refine wpOp_mono (fun a' w' h3 => ⟨h3.2.1, ih (listed.setIfInBounds j true) a' w' (hc.list hj) hf' (ready_mono hr (Ne.symm hji)) h3.1 (h3.2.1 hjJ) ?_⟩) h2
      rw [Array.setIfInBounds_comm _ _ hji]
      exact h3.2.2

/-- The plan: in which order; 'true': it only reads, and is taken first. -/
def planOk (md : Region.Mode) (ops : Array Oper) (J : Nat → Bool) : List (Nat × Bool) → Array Bool → Bool
  | [], listed => (Region.ready md ops listed).isEmpty
  | (i, true) :: rest, listed => (Region.ready md ops listed).contains i && Region.free md ops listed i && waits md ops J i && planOk md ops J rest (listed.setIfInBounds i true)
  | (i, false) :: rest, listed => Region.ready md ops listed == [i] && (J i || !rest.any (·.2)) && planOk md ops J rest (listed.setIfInBounds i true)

def wpPlan (P : Program) (ops : Array Oper) (Q : Exit → Act → World → Prop) (S : World → Prop) (J : Nat → Bool) : List (Nat × Bool) → Act → World → Prop
  | [], a, w => Q .normal a w
  | (i, true) :: rest, a, w => ∃ o v, ops[i]? = some o ∧ YieldsIf P ops S o v a ∧ wpPlan P ops Q S J rest (a.put o.dst v) w
  | (i, false) :: rest, a, w => wpOp P ops Q i (fun a' w' => (J i = true → S w') ∧ wpPlan P ops Q S J rest a' w') a w

theorem wpAnyJ_of_plan (hs : Region.noSelect ops = true) (hQ : ∀ (o : Oper) c a v w, Q (.panic c) (a.put o.dst v) w → Q (.panic c) a w) (plan : List (Nat × Bool)) :
    ∀ (listed : Array Bool) (a : Act) (w : World), Closed md ops listed → planOk md ops J plan listed = true → (plan.any (·.2) = true → S w) → wpPlan P ops Q S J plan a w → wpAnyJ P md ops Q S J plan.length listed a w := by
  induction plan with
  | nil =>
    intro listed a w _ hok _ h
    exact ⟨List.isEmpty_iff.1 hok, h⟩
  | cons x rest ih =>
    obtain ⟨i, b⟩ := x
    intro listed a w hc hok hS h
    cases b with
    | true =>
      simp only [planOk, Bool.and_eq_true] at hok
      obtain ⟨⟨⟨h1, h2⟩, h3⟩, h4⟩ := hok
      obtain ⟨o, v, ho, hy, h⟩ := h
      have hSw : S w := hS (by simp)
      exact wpAnyJ_first ho (Region.noSelect_spec hs) (fun c a w => hQ o c a v w) h3 rest.length listed a w hc h2 (by simpa using h1) hy hSw (ih _ _ _ (hc.list (by simpa using h1)) h4 (fun _ => hSw) h)
    | false =>
      simp only [planOk, Bool.and_eq_true, beq_iff_eq] at hok
      obtain ⟨⟨h1, h2⟩, h3⟩ := hok
      refine ⟨fun h0 => (by rw [h1] at h0; cases h0), fun j hj => ?_⟩
      rw [h1] at hj
      obtain rfl : j = i := by simpa using hj
      refine wpOp_mono (fun a' w' h4 => ⟨h4.1, ih _ _ _ (hc.list (by rw [h1]; exact List.mem_singleton.2 rfl)) h3 (fun hany => ?_) h4.2⟩) h
      rw [Bool.or_eq_true] at h2
      rcases h2 with h2 | h2
      · exact h4.1 h2
      · rw [hany] at h2; cases h2

theorem wp_region_plan {id : Nat} {a : Act} {w : World} (S : World → Prop) (J : Nat → Bool) (plan : List (Nat × Bool)) (hm : P.follows .mixedOrders = true) (hs : Region.noSelect ops = true)
    (hl : plan.length = ops.size) (hok : planOk .any ops J plan (Array.replicate ops.size false) = true)
    (hQ : ∀ (o : Oper) c a v w, Q (.panic c) (a.put o.dst v) w → Q (.panic c) a w) (hS : S w.drew) (h : wpPlan P ops Q S J plan a w.drew) : (Code.region id ops true).wp P Q a w := by
  refine wp_region_any hm (wpAny_of_J ops.size _ _ _ ?_ (S := S) (J := J))
  have := wpAnyJ_of_plan (md := .any) (S := S) (J := J) hs hQ plan (Array.replicate ops.size false) a w.drew (Closed.empty _) hok (fun _ => hS) h
  rw [hl] at this
  exact this

theorem planT {i : Nat} {rest : List (Nat × Bool)} {o : Oper} {v : Value} {a : Act} {w : World} (ho : ops.toList[i]? = some o) (hw : Region.wanted o (yielded ops a.tmps) = true)
    (hy : ∀ w', S w' → (execOp a.eval o).run P w' = .ok (.value v) w') (h : wpPlan P ops Q S J rest (a.put o.dst v) w) : wpPlan P ops Q S J ((i, true) :: rest) a w :=
  ⟨o, v, by rw [← Array.getElem?_toList]; exact ho, .inl ⟨hw, hy⟩, h⟩

theorem planF {i : Nat} {rest : List (Nat × Bool)} {o : Oper} {a : Act} {w : World} (ho : ops.toList[i]? = some o) (hw : Region.wanted o (yielded ops a.tmps) = true)
    (h : ∀ K : Act → World → Prop, (∀ a' w', (J i = true → S w') → wpPlan P ops Q S J rest a' w' → K a' w') → o.wp P a w K Q) : wpPlan P ops Q S J ((i, false) :: rest) a w := by
  show wpOp P ops Q i _ a w
  rw [Array.getElem?_toList] at ho
  unfold wpOp
  simp only [ho, hw, if_true]
  exact .inl (h _ (fun a' w' h1 h2 => ⟨h1, h2⟩))

theorem plan_world {plan : List (Nat × Bool)} {a : Act} {W : World} (R : World → Prop) (hR : R W) (h : ∀ W', R W' → wpPlan P ops Q S J plan a W') : wpPlan P ops Q S J plan a W := h W hR

theorem planQ {Q : Exit → Act → World → Prop} (h : ∀ c a a' w, a.defers = a'.defers → Q (.panic c) a w → Q (.panic c) a' w) : ∀ (o : Oper) c a v w, Q (.panic c) (a.put o.dst v) w → Q (.panic c) a w :=
  fun o c a v w hq => h c _ a w (by cases o.dst <;> rfl) hq
end

theorem cell_set_at {w : World} {p a : Addr} {u v : Value} (hne : a.block ≠ p.block ∨ a.off ≠ p.off) (h : w.cell? a = some v) : (w.setCell p u).cell? a = some v := by
  rw [World.cell?_setCell_other w p a u (fun e => by subst e; rcases hne with h | h <;> exact h rfl)]; exact h
end Go.Proofs.YtidjljldhdckiaaGreatDoor
