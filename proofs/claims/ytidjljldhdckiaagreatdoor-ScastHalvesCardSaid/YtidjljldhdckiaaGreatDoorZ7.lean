/- A statement whose order is open,walked in one order: what only reads is taken first;S is asked behind each operation but the last ones (J),for which everything else waits. -/
import Derived.Test.YtidjljldhdckiaaGreatDoorZ6
import Derived.OrdersHeld
import Derived.Test.YtidjljldhdckiaaGreatDoorZ5
set_option maxRecDepth 100000
set_option maxHeartbeats 16000000
namespace Go.Proofs.YtidjljldhdckiaaGreatDoor
open Go.RowKit
theorem U1 {α : Type} (l : List α) (i : Nat) (a : α) : l.toArray.setIfInBounds i a = (l.set i a).toArray:=by simp
theorem U2 {α : Type} (x : α) (l : List α) (a : α) : (x :: l).set 0 a = a :: l:=rfl
theorem U3 {α : Type} (x : α) (l : List α) (i : Nat) (a : α) : (x :: l).set (i + 1) a = x :: l.set i a:=rfl
section
variable {P : Program} {md : Region.Mode} {ops : Array Oper} {Q : Exit -> Act -> World -> Prop} {S : World -> Prop} {J : Nat -> Bool}
def wpAnyJ (P : Program) (md : Region.Mode) (ops : Array Oper) (Q : Exit -> Act -> World -> Prop) (S : World -> Prop) (J : Nat -> Bool) : Nat -> Array Bool -> Act -> World -> Prop
 | 0,listed,a,w=>Region.ready md ops listed = [] /\ Q .normal a w
 | fuel + 1,listed,a,w =>
   (Region.ready md ops listed = [] -> Q .normal a w) /\
   ∀ i ∈ Region.ready md ops listed,wpOp P ops Q i (fun a' w'=>(J i = true -> S w') /\ wpAnyJ P md ops Q S J fuel (listed.setIfInBounds i true) a' w') a w
theorem wpAny_of_J (fuel : Nat) : ∀ (listed : Array Bool) (a : Act) (w : World),wpAnyJ P md ops Q S J fuel listed a w -> wpAny P md ops Q fuel listed a w:=by
 induction fuel with
 | zero=>intro _ _ _ h;exact h
 | succ n ih=>intro _ _ _ h;exact ⟨h.1,fun i hi=>wpOp_mono (fun a' w' h'=>ih _ a' w' h'.2) (h.2 i hi)⟩
def reach (md : Region.Mode) (ops : Array Oper) (i : Nat) : Nat -> Nat -> Bool
 | 0,_=>false
 | n + 1,j=>match ops[j]? with
   | some oj=>oj.after.any fun e=>Region.binds md e && (e.on == i || reach md ops i n e.on)
   | none=>false
def waits (md : Region.Mode) (ops : Array Oper) (J : Nat -> Bool) (i : Nat) : Bool:=
 (List.range ops.size).all fun j=>j == i || J j || reach md ops i ops.size j
def Closed (md : Region.Mode) (ops : Array Oper) (listed : Array Bool) : Prop:=
 ∀ (k : Nat) (ok : Oper),listed.getD k false = true -> ops[k]? = some ok -> ∀ e ∈ ok.after,Region.binds md e = true -> listed.getD e.on false = true
theorem Closed.empty (n : Nat) : Closed md ops (Array.replicate n false):=by
 intro k ok h
 exfalso
 rw [Array.getD_eq_getD_getElem?,Array.getElem?_replicate] at h
 split at h<;>simp at h
theorem Closed.list {listed : Array Bool} (h : Closed md ops listed) {j : Nat} (hj : j ∈ Region.ready md ops listed) : Closed md ops (listed.setIfInBounds j true):=by
 obtain ⟨hjun,oj,hoj,hall⟩:=mem_ready.1 hj
 have up : ∀ n,listed.getD n false = true -> (listed.setIfInBounds j true).getD n false = true:=by
  intro n hn
  by_cases hjn : j = n
  . subst hjn
    rcases Nat.lt_or_ge j listed.size with h' | h'
    . simp [h']
    . simp [Array.getD_eq_getD_getElem?,Array.getElem?_eq_none h'] at hn
  . rw [getD_set_ne false hjn];exact hn
 intro k ok hk hok e he hb
 by_cases hjk : j = k
 . subst hjk
   rw [hoj] at hok;cases hok
   exact up _ (hall e he hb)
 . rw [getD_set_ne false hjk] at hk
   exact up _ (h k ok hk hok e he hb)
theorem reach_listed {listed : Array Bool} (hc : Closed md ops listed) {i : Nat} (n : Nat) : ∀ (j : Nat) (oj : Oper),ops[j]? = some oj -> (∀ e ∈ oj.after,Region.binds md e = true -> listed.getD e.on false = true) -> reach md ops i n j = true -> listed.getD i false = true:=by
 induction n with
 | zero=>intro j oj _ _ h;cases h
 | succ n ih =>
   intro j oj hoj hall h
   unfold reach at h
   rw [hoj] at h
   simp only at h
   rw [Array.any_eq_true] at h
   obtain ⟨k,hk,h2⟩:=h
   simp only [Bool.and_eq_true,Bool.or_eq_true,beq_iff_eq] at h2
   have h3:=hall _ (Array.getElem_mem hk) h2.1
   rcases h2.2 with h4 | h4
   . rw [<- h4];exact h3
   . cases ho : ops[oj.after[k].on]? with
     | none =>
       cases n with
       | zero=>cases h4
       | succ m=>unfold reach at h4;rw [ho] at h4;cases h4
     | some ok=>exact ih _ ok ho (hc _ ok h3 ho) h4
theorem waits_spec {listed : Array Bool} (hc : Closed md ops listed) {i : Nat} (h : waits md ops J i = true) (hiun : listed.getD i true = false) {j : Nat} (hj : j ∈ Region.ready md ops listed) (hne : j ≠ i) : J j = true:=by
 obtain ⟨hjun,oj,hoj,hall⟩:=mem_ready.1 hj
 unfold waits at h
 rw [List.all_eq_true] at h
 have h1:=h j (List.mem_range.2 (Array.getElem?_eq_some_iff.1 hoj).1)
 simp only [Bool.or_eq_true,beq_iff_eq] at h1
 rcases h1 with (h1 | h1) | h1
 . exact absurd h1 hne
 . exact h1
 . have h2:=reach_listed hc _ j oj hoj hall h1
   rcases Nat.lt_or_ge i listed.size with h' | h'
   . simp [h'] at hiun h2;rw [hiun] at h2;cases h2
   . simp [Array.getD_eq_getD_getElem?,Array.getElem?_eq_none h'] at h2
theorem wpAnyJ_first {i : Nat} {oi : Oper} {v : Value} (hi : ops[i]? = some oi) (hsel : ∀ (j : Nat) (o : Oper) cs b,ops[j]? = some o -> o.op ≠ .select cs b)
 (hQ : ∀ c a w,Q (.panic c) (a.put oi.dst v) w -> Q (.panic c) a w) (hJ : waits md ops J i = true) (fuel : Nat) :
 ∀ (listed : Array Bool) (a : Act) (w : World),Closed md ops listed -> Region.free md ops listed i = true -> i ∈ Region.ready md ops listed -> YieldsIf P ops S oi v a -> S w ->
  wpAnyJ P md ops Q S J fuel (listed.setIfInBounds i true) (a.put oi.dst v) w -> wpAnyJ P md ops Q S J (fuel + 1) listed a w:=by
 induction fuel with
 | zero =>
   intro listed a w _ _ hr hy hS H
   refine ⟨fun h=>(by rw [h] at hr;cases hr),fun j hj=>?_⟩
   by_cases hji : j = i
   . subst hji;exact hy.wpOp hi hS ⟨fun _=>hS,H⟩
   . have:=ready_mono hj hji
     rw [H.1] at this
     cases this
 | succ n ih =>
   intro listed a w hc hf hr hy hS H
   refine ⟨fun h=>(by rw [h] at hr;cases hr),fun j hj=>?_⟩
   by_cases hji : j = i
   . subst hji;exact hy.wpOp hi hS ⟨fun _=>hS,H⟩
   . have h1:=H.2 j (ready_mono hj hji)
     obtain ⟨hjun,oj,hoj,hall⟩:=mem_ready.1 hj
     have hiun:=(mem_ready.1 hr).1
     have hnot : ∀ e ∈ oj.after,Region.binds md e = true -> e.on ≠ i:=by
      intro e he hb heq
      have h2:=hall e he hb
      rw [heq] at h2
      rcases Nat.lt_or_ge i listed.size with h' | h'
      . simp [h'] at hiun h2;rw [hiun] at h2;cases h2
      . simp [Array.getElem?_eq_none h'] at h2
     have hjJ : J j = true:=waits_spec hc hJ hiun hj hji
     have h2:=wpOp_putIf hoj (Region.free_spec hi hf j oj hoj hji hjun hnot) (fun cs b=>hsel i oi cs b hi) (fun cs b=>hsel j oj cs b hoj) hQ hy h1
     have hf' : Region.free md ops (listed.setIfInBounds j true) i = true:=by
      unfold Region.free at hf ⊢
      rw [hi] at hf ⊢
      simp only [List.all_eq_true] at hf ⊢
      intro k hk
      have:=hf k hk
      simp only [Bool.or_eq_true] at this ⊢
      rcases this with (h3 | h3) | h3
      . exact .inl (.inl h3)
      . refine .inl (.inr ?_)
        by_cases hjk : j = k
        . subst hjk
          rcases Nat.lt_or_ge j listed.size with h' | h'
          . simp [h']
          . simp
        . rw [getD_set_ne true hjk];exact h3
      . exact .inr h3
     refine wpOp_mono (fun a' w' h3=>⟨h3.2.1,ih (listed.setIfInBounds j true) a' w' (hc.list hj) hf' (ready_mono hr (Ne.symm hji)) h3.1 (h3.2.1 hjJ) ?_⟩) h2
     rw [Array.setIfInBounds_comm _ _ hji]
     exact h3.2.2
def planOk (md : Region.Mode) (ops : Array Oper) (J : Nat -> Bool) : List (Nat × Bool) -> Array Bool -> Bool
 | [],listed=>(Region.ready md ops listed).isEmpty
 | (i,true) :: rest,listed=>(Region.ready md ops listed).contains i && Region.free md ops listed i && waits md ops J i && planOk md ops J rest (listed.setIfInBounds i true)
 | (i,false) :: rest,listed=>Region.ready md ops listed == [i] && (J i || !rest.any (·.2)) && planOk md ops J rest (listed.setIfInBounds i true)
def wpPlan (P : Program) (ops : Array Oper) (Q : Exit -> Act -> World -> Prop) (S : World -> Prop) (J : Nat -> Bool) : List (Nat × Bool) -> Act -> World -> Prop
 | [],a,w=>Q .normal a w
 | (i,true) :: rest,a,w=>∃ o v,ops[i]? = some o /\ YieldsIf P ops S o v a /\ wpPlan P ops Q S J rest (a.put o.dst v) w
 | (i,false) :: rest,a,w=>wpOp P ops Q i (fun a' w'=>(J i = true -> S w') /\ wpPlan P ops Q S J rest a' w') a w
theorem wpAnyJ_of_plan (hs : Region.noSelect ops = true) (hQ : ∀ (o : Oper) c a v w,Q (.panic c) (a.put o.dst v) w -> Q (.panic c) a w) (plan : List (Nat × Bool)) :
 ∀ (listed : Array Bool) (a : Act) (w : World),Closed md ops listed -> planOk md ops J plan listed = true -> (plan.any (·.2) = true -> S w) -> wpPlan P ops Q S J plan a w -> wpAnyJ P md ops Q S J plan.length listed a w:=by
 induction plan with
 | nil =>
   intro listed a w _ hok _ h
   exact ⟨List.isEmpty_iff.1 hok,h⟩
 | cons x rest ih =>
   obtain ⟨i,b⟩:=x
   intro listed a w hc hok hS h
   cases b with
   | true =>
     simp only [planOk,Bool.and_eq_true] at hok
     obtain ⟨⟨⟨h1,h2⟩,h3⟩,h4⟩:=hok
     obtain ⟨o,v,ho,hy,h⟩:=h
     have hSw : S w:=hS (by simp)
     exact wpAnyJ_first ho (Region.noSelect_spec hs) (fun c a w=>hQ o c a v w) h3 rest.length listed a w hc h2 (by simpa using h1) hy hSw (ih _ _ _ (hc.list (by simpa using h1)) h4 (fun _=>hSw) h)
   | false =>
     simp only [planOk,Bool.and_eq_true,beq_iff_eq] at hok
     obtain ⟨⟨h1,h2⟩,h3⟩:=hok
     refine ⟨fun h0=>(by rw [h1] at h0;cases h0),fun j hj=>?_⟩
     rw [h1] at hj
     obtain rfl : j = i:=by simpa using hj
     refine wpOp_mono (fun a' w' h4=>⟨h4.1,ih _ _ _ (hc.list (by rw [h1];exact List.mem_singleton.2 rfl)) h3 (fun hany=>?_) h4.2⟩) h
     rw [Bool.or_eq_true] at h2
     rcases h2 with h2 | h2
     . exact h4.1 h2
     . rw [hany] at h2;cases h2
theorem wp_region_plan {id : Nat} {a : Act} {w : World} (S : World -> Prop) (J : Nat -> Bool) (plan : List (Nat × Bool)) (hm : P.follows .mixedOrders = true) (hs : Region.noSelect ops = true)
 (hl : plan.length = ops.size) (hok : planOk .any ops J plan (Array.replicate ops.size false) = true)
 (hQ : ∀ (o : Oper) c a v w,Q (.panic c) (a.put o.dst v) w -> Q (.panic c) a w) (hS : S w.drew) (h : wpPlan P ops Q S J plan a w.drew) : (Code.region id ops true).wp P Q a w:=by
 refine wp_region_any hm (wpAny_of_J ops.size _ _ _ ?_ (S:=S) (J:=J))
 have:=wpAnyJ_of_plan (md:=.any) (S:=S) (J:=J) hs hQ plan (Array.replicate ops.size false) a w.drew (Closed.empty _) hok (fun _=>hS) h
 rw [hl] at this
 exact this
theorem planT {i : Nat} {rest : List (Nat × Bool)} {o : Oper} {v : Value} {a : Act} {w : World} (ho : ops.toList[i]? = some o) (hw : Region.wanted o (yielded ops a.tmps) = true)
 (hy : ∀ w',S w' -> (execOp a.eval o).run P w' = .ok (.value v) w') (h : wpPlan P ops Q S J rest (a.put o.dst v) w) : wpPlan P ops Q S J ((i,true) :: rest) a w:=
 ⟨o,v,by rw [<- Array.getElem?_toList];exact ho,.inl ⟨hw,hy⟩,h⟩
theorem planF {i : Nat} {rest : List (Nat × Bool)} {o : Oper} {a : Act} {w : World} (ho : ops.toList[i]? = some o) (hw : Region.wanted o (yielded ops a.tmps) = true)
 (h : ∀ K : Act -> World -> Prop,(∀ a' w',(J i = true -> S w') -> wpPlan P ops Q S J rest a' w' -> K a' w') -> o.wp P a w K Q) : wpPlan P ops Q S J ((i,false) :: rest) a w:=by
 show wpOp P ops Q i _ a w
 rw [Array.getElem?_toList] at ho
 unfold wpOp
 simp only [ho,hw,if_true]
 exact .inl (h _ (fun a' w' h1 h2=>⟨h1,h2⟩))
theorem plan_world {plan : List (Nat × Bool)} {a : Act} {W : World} (R : World -> Prop) (hR : R W) (h : ∀ W',R W' -> wpPlan P ops Q S J plan a W') : wpPlan P ops Q S J plan a W:=h W hR
end
theorem cell_set_at {w : World} {p a : Addr} {u v : Value} (hne : a.block ≠ p.block \/ a.off ≠ p.off) (h : w.cell? a = some v) : (w.setCell p u).cell? a = some v:=by
 rw [World.cell?_setCell_other w p a u (fun e=>by subst e;rcases hne with h | h<;>exact h rfl)];exact h
section
variable {P : Program} {md : Region.Mode} {ops : Array Oper} {Q : Exit -> Act -> World -> Prop} {S : World -> Prop} {J : Nat -> Bool}
def planOkB (md : Region.Mode) (ops : Array Oper) (J : Nat -> Bool) (i j : Nat) (p1 p2 : List (Nat × Bool)) : List Nat -> Array Bool -> Bool
 | [],listed=>Region.ready md ops listed == [i,j] && planOk md ops J p1 (listed.setIfInBounds i true) && planOk md ops J p2 (listed.setIfInBounds j true)
 | x :: pre,listed=>(Region.ready md ops listed).contains x && Region.free md ops listed x && waits md ops J x && planOkB md ops J i j p1 p2 pre (listed.setIfInBounds x true)
def wpPlanB (P : Program) (ops : Array Oper) (Q : Exit -> Act -> World -> Prop) (S : World -> Prop) (J : Nat -> Bool) (i j : Nat) (p1 p2 : List (Nat × Bool)) : List Nat -> Act -> World -> Prop
 | [],a,w=>wpOp P ops Q i (fun a1 w1=>S w1 /\ wpPlan P ops Q S J p1 a1 w1) a w /\ wpOp P ops Q j (fun a1 w1=>S w1 /\ wpPlan P ops Q S J p2 a1 w1) a w
 | x :: pre,a,w=>∃ o v,ops[x]? = some o /\ YieldsIf P ops S o v a /\ wpPlanB P ops Q S J i j p1 p2 pre (a.put o.dst v) w
theorem wpAnyJ_of_planB (hs : Region.noSelect ops = true) (hQ : ∀ (o : Oper) c a v w,Q (.panic c) (a.put o.dst v) w -> Q (.panic c) a w) (i j : Nat) (p1 p2 : List (Nat × Bool)) (hl : p2.length = p1.length) (pre : List Nat) :
 ∀ (listed : Array Bool) (a : Act) (w : World),Closed md ops listed -> planOkB md ops J i j p1 p2 pre listed = true -> S w -> wpPlanB P ops Q S J i j p1 p2 pre a w -> wpAnyJ P md ops Q S J (p1.length + 1 + pre.length) listed a w:=by
 induction pre with
 | nil =>
   intro listed a w hc hok _ h
   simp only [planOkB,Bool.and_eq_true,beq_iff_eq] at hok
   obtain ⟨⟨h1,h2⟩,h3⟩:=hok
   have mi : i ∈ Region.ready md ops listed:=by rw [h1];simp
   have mj : j ∈ Region.ready md ops listed:=by rw [h1];simp
   refine ⟨fun h0=>(by rw [h1] at h0;cases h0),fun k hk=>?_⟩
   rw [h1] at hk
   simp only [List.mem_cons,List.not_mem_nil,or_false] at hk
   rcases hk with rfl | rfl
   . exact wpOp_mono (fun a1 w1 q=>⟨fun _=>q.1,wpAnyJ_of_plan hs hQ p1 _ _ _ (hc.list mi) h2 (fun _=>q.1) q.2⟩) h.1
   . refine wpOp_mono (fun a1 w1 q=>⟨fun _=>q.1,?_⟩) h.2
     have:=wpAnyJ_of_plan hs hQ p2 _ _ _ (hc.list mj) h3 (fun _=>q.1) q.2
     rw [hl] at this
     exact this
 | cons x pre ih =>
   intro listed a w hc hok hS h
   simp only [planOkB,Bool.and_eq_true] at hok
   obtain ⟨⟨⟨h1,h2⟩,h3⟩,h4⟩:=hok
   obtain ⟨o,v,ho,hy,h⟩:=h
   exact wpAnyJ_first ho (Region.noSelect_spec hs) (fun c a w=>hQ o c a v w) h3 (p1.length + 1 + pre.length) listed a w hc h2 (by simpa using h1) hy hS (ih _ _ _ (hc.list (by simpa using h1)) h4 hS h)
theorem wp_region_planB {id : Nat} {a : Act} {w : World} (S : World -> Prop) (J : Nat -> Bool) (i j : Nat) (p1 p2 : List (Nat × Bool)) (pre : List Nat) (hm : P.follows .mixedOrders = true) (hs : Region.noSelect ops = true)
 (hl : p1.length + 1 + pre.length = ops.size) (hl2 : p2.length = p1.length) (hok : planOkB .any ops J i j p1 p2 pre (Array.replicate ops.size false) = true)
 (hQ : ∀ (o : Oper) c a v w,Q (.panic c) (a.put o.dst v) w -> Q (.panic c) a w) (hS : S w.drew) (h : wpPlanB P ops Q S J i j p1 p2 pre a w.drew) : (Code.region id ops true).wp P Q a w:=by
 refine wp_region_any hm (wpAny_of_J ops.size _ _ _ ?_ (S:=S) (J:=J))
 have:=wpAnyJ_of_planB (md:=.any) (S:=S) (J:=J) hs hQ i j p1 p2 hl2 pre (Array.replicate ops.size false) a w.drew (Closed.empty _) hok hS h
 rw [hl] at this
 exact this
theorem planTB {i j x : Nat} {p1 p2 : List (Nat × Bool)} {pre : List Nat} {o : Oper} {v : Value} {a : Act} {w : World} (ho : ops.toList[x]? = some o) (hw : Region.wanted o (yielded ops a.tmps) = true)
 (hy : ∀ w',S w' -> (execOp a.eval o).run P w' = .ok (.value v) w') (h : wpPlanB P ops Q S J i j p1 p2 pre (a.put o.dst v) w) : wpPlanB P ops Q S J i j p1 p2 (x :: pre) a w:=
 ⟨o,v,by rw [<- Array.getElem?_toList];exact ho,.inl ⟨hw,hy⟩,h⟩
theorem planBB {i j : Nat} {p1 p2 : List (Nat × Bool)} {oi oj : Oper} {a : Act} {w : World} (hoi : ops.toList[i]? = some oi) (hoj : ops.toList[j]? = some oj) (hwi : Region.wanted oi (yielded ops a.tmps) = true) (hwj : Region.wanted oj (yielded ops a.tmps) = true)
 (h1 : ∀ K : Act -> World -> Prop,(∀ a' w',S w' -> wpPlan P ops Q S J p1 a' w' -> K a' w') -> oi.wp P a w K Q) (h2 : ∀ K : Act -> World -> Prop,(∀ a' w',S w' -> wpPlan P ops Q S J p2 a' w' -> K a' w') -> oj.wp P a w K Q) : wpPlanB P ops Q S J i j p1 p2 [] a w:=by
 rw [Array.getElem?_toList] at hoi hoj
 refine ⟨?_,?_⟩
 . unfold wpOp
   simp only [hoi,hwi,if_true]
   exact .inl (h1 _ (fun a' w' q1 q2=>⟨q1,q2⟩))
 . unfold wpOp
   simp only [hoj,hwj,if_true]
   exact .inl (h2 _ (fun a' w' q1 q2=>⟨q1,q2⟩))
end
inductive PT where
 | lin (p : List (Nat × Bool))
 | rd (x : Nat) (t : PT)
 | br (i j : Nat) (t1 t2 : PT)
 | tr (i j k : Nat) (t1 t2 t3 : PT)
def PT.size : PT -> Nat
 | .lin p=>p.length
 | .rd _ t=>t.size + 1
 | .br _ _ t1 _=>t1.size + 1
 | .tr _ _ _ t1 _ _=>t1.size + 1
section
variable {P : Program} {md : Region.Mode} {ops : Array Oper} {Q : Exit -> Act -> World -> Prop} {S : World -> Prop} {J : Nat -> Bool}
def planOkT (md : Region.Mode) (ops : Array Oper) (J : Nat -> Bool) : PT -> Array Bool -> Bool
 | .lin p,listed=>planOk md ops J p listed
 | .rd x t,listed=>(Region.ready md ops listed).contains x && Region.free md ops listed x && waits md ops J x && planOkT md ops J t (listed.setIfInBounds x true)
 | .br i j t1 t2,listed=>Region.ready md ops listed == [i,j] && t1.size == t2.size && J i && J j && planOkT md ops J t1 (listed.setIfInBounds i true) && planOkT md ops J t2 (listed.setIfInBounds j true)
 | .tr i j k t1 t2 t3,listed=>Region.ready md ops listed == [i,j,k] && t1.size == t2.size && t1.size == t3.size && planOkT md ops J t1 (listed.setIfInBounds i true) && planOkT md ops J t2 (listed.setIfInBounds j true) && planOkT md ops J t3 (listed.setIfInBounds k true)
def wpPlanT (P : Program) (ops : Array Oper) (Q : Exit -> Act -> World -> Prop) (S : World -> Prop) (J : Nat -> Bool) : PT -> Act -> World -> Prop
 | .lin p,a,w=>wpPlan P ops Q S J p a w
 | .rd x t,a,w=>∃ o v,ops[x]? = some o /\ YieldsIf P ops S o v a /\ wpPlanT P ops Q S J t (a.put o.dst v) w
 | .br i j t1 t2,a,w=>wpOp P ops Q i (fun a1 w1=>S w1 /\ wpPlanT P ops Q S J t1 a1 w1) a w /\ wpOp P ops Q j (fun a1 w1=>S w1 /\ wpPlanT P ops Q S J t2 a1 w1) a w
 | .tr i j k t1 t2 t3,a,w=>wpOp P ops Q i (fun a1 w1=>S w1 /\ wpPlanT P ops Q S J t1 a1 w1) a w /\ wpOp P ops Q j (fun a1 w1=>S w1 /\ wpPlanT P ops Q S J t2 a1 w1) a w /\ wpOp P ops Q k (fun a1 w1=>S w1 /\ wpPlanT P ops Q S J t3 a1 w1) a w
theorem wpAnyJ_of_planT (hs : Region.noSelect ops = true) (hQ : ∀ (o : Oper) c a v w,Q (.panic c) (a.put o.dst v) w -> Q (.panic c) a w) (t : PT) :
 ∀ (listed : Array Bool) (a : Act) (w : World),Closed md ops listed -> planOkT md ops J t listed = true -> S w -> wpPlanT P ops Q S J t a w -> wpAnyJ P md ops Q S J t.size listed a w:=by
 induction t with
 | lin p=>intro listed a w hc hok hS h;exact wpAnyJ_of_plan hs hQ p _ _ _ hc hok (fun _=>hS) h
 | br i j t1 t2 ih1 ih2 =>
   intro listed a w hc hok _ h
   simp only [planOkT,Bool.and_eq_true,beq_iff_eq] at hok
   obtain ⟨⟨⟨⟨⟨h1,hsz⟩,_⟩,_⟩,h2⟩,h3⟩:=hok
   have mi : i ∈ Region.ready md ops listed:=by rw [h1];simp
   have mj : j ∈ Region.ready md ops listed:=by rw [h1];simp
   refine ⟨fun h0=>(by rw [h1] at h0;cases h0),fun k hk=>?_⟩
   rw [h1] at hk
   simp only [List.mem_cons,List.not_mem_nil,or_false] at hk
   rcases hk with rfl | rfl
   . exact wpOp_mono (fun a1 w1 q=>⟨fun _=>q.1,ih1 _ _ _ (hc.list mi) h2 q.1 q.2⟩) h.1
   . refine wpOp_mono (fun a1 w1 q=>⟨fun _=>q.1,?_⟩) h.2
     have:=ih2 _ _ _ (hc.list mj) h3 q.1 q.2
     rw [<- hsz] at this
     exact this
 | tr i j k t1 t2 t3 ih1 ih2 ih3 =>
   intro listed a w hc hok _ h
   simp only [planOkT,Bool.and_eq_true,beq_iff_eq] at hok
   obtain ⟨⟨⟨⟨⟨h1,hs2⟩,hs3⟩,h2⟩,h3⟩,h4⟩:=hok
   have mi : i ∈ Region.ready md ops listed:=by rw [h1];simp
   have mj : j ∈ Region.ready md ops listed:=by rw [h1];simp
   have mk : k ∈ Region.ready md ops listed:=by rw [h1];simp
   refine ⟨fun h0=>(by rw [h1] at h0;cases h0),fun l hl=>?_⟩
   rw [h1] at hl
   simp only [List.mem_cons,List.not_mem_nil,or_false] at hl
   rcases hl with rfl | rfl | rfl
   . exact wpOp_mono (fun a1 w1 q=>⟨fun _=>q.1,ih1 _ _ _ (hc.list mi) h2 q.1 q.2⟩) h.1
   . refine wpOp_mono (fun a1 w1 q=>⟨fun _=>q.1,?_⟩) h.2.1
     have:=ih2 _ _ _ (hc.list mj) h3 q.1 q.2
     rw [<- hs2] at this
     exact this
   . refine wpOp_mono (fun a1 w1 q=>⟨fun _=>q.1,?_⟩) h.2.2
     have:=ih3 _ _ _ (hc.list mk) h4 q.1 q.2
     rw [<- hs3] at this
     exact this
 | rd x t ih =>
   intro listed a w hc hok hS h
   simp only [planOkT,Bool.and_eq_true] at hok
   obtain ⟨⟨⟨h1,h2⟩,h3⟩,h4⟩:=hok
   obtain ⟨o,v,ho,hy,h⟩:=h
   exact wpAnyJ_first ho (Region.noSelect_spec hs) (fun c a w=>hQ o c a v w) h3 t.size listed a w hc h2 (by simpa using h1) hy hS (ih _ _ _ (hc.list (by simpa using h1)) h4 hS h)
theorem wp_region_planT {id : Nat} {a : Act} {w : World} (S : World -> Prop) (J : Nat -> Bool) (t : PT) (hm : P.follows .mixedOrders = true) (hs : Region.noSelect ops = true)
 (hl : t.size = ops.size) (hok : planOkT .any ops J t (Array.replicate ops.size false) = true)
 (hQ : ∀ (o : Oper) c a v w,Q (.panic c) (a.put o.dst v) w -> Q (.panic c) a w) (hS : S w.drew) (h : wpPlanT P ops Q S J t a w.drew) : (Code.region id ops true).wp P Q a w:=by
 refine wp_region_any hm (wpAny_of_J ops.size _ _ _ ?_ (S:=S) (J:=J))
 have:=wpAnyJ_of_planT (md:=.any) (S:=S) (J:=J) hs hQ t (Array.replicate ops.size false) a w.drew (Closed.empty _) hok hS h
 rw [hl] at this
 exact this
theorem planTT {x : Nat} {t : PT} {o : Oper} {v : Value} {a : Act} {w : World} (ho : ops.toList[x]? = some o) (hw : Region.wanted o (yielded ops a.tmps) = true)
 (hy : ∀ w',S w' -> (execOp a.eval o).run P w' = .ok (.value v) w') (h : wpPlanT P ops Q S J t (a.put o.dst v) w) : wpPlanT P ops Q S J (.rd x t) a w:=
 ⟨o,v,by rw [<- Array.getElem?_toList];exact ho,.inl ⟨hw,hy⟩,h⟩
theorem planTBr {i j : Nat} {t1 t2 : PT} {oi oj : Oper} {a : Act} {w : World} (hJi : J i = true) (hJj : J j = true) (hoi : ops.toList[i]? = some oi) (hoj : ops.toList[j]? = some oj) (hwi : Region.wanted oi (yielded ops a.tmps) = true) (hwj : Region.wanted oj (yielded ops a.tmps) = true)
 (h1 : ∀ K : Act -> World -> Prop,(∀ a' w',(J i = true -> S w') -> wpPlanT P ops Q S J t1 a' w' -> K a' w') -> oi.wp P a w K Q) (h2 : ∀ K : Act -> World -> Prop,(∀ a' w',(J j = true -> S w') -> wpPlanT P ops Q S J t2 a' w' -> K a' w') -> oj.wp P a w K Q) : wpPlanT P ops Q S J (.br i j t1 t2) a w:=by
 rw [Array.getElem?_toList] at hoi hoj
 refine ⟨?_,?_⟩
 . unfold wpOp
   simp only [hoi,hwi,if_true]
   exact .inl (h1 _ (fun a' w' q1 q2=>⟨q1 hJi,q2⟩))
 . unfold wpOp
   simp only [hoj,hwj,if_true]
   exact .inl (h2 _ (fun a' w' q1 q2=>⟨q1 hJj,q2⟩))
theorem planT_world {t : PT} {a : Act} {W : World} (R : World -> Prop) (hR : R W) (h : ∀ W',R W' -> wpPlanT P ops Q S J t a W') : wpPlanT P ops Q S J t a W:=h W hR
theorem planTL {p : List (Nat × Bool)} {a : Act} {w : World} (h : wpPlan P ops Q S J p a w) : wpPlanT P ops Q S J (.lin p) a w:=h
end
def Keeps (cs : List (Addr × Value)) (w : World) : Prop:=∀ p ∈ cs,w.cell? p.1 = some p.2
theorem Keeps.below {cs : List (Addr × Value)} {w w' : World} (h : Keeps cs w) (hb : Below w.heap.size w w') : Keeps cs w':=fun p hp=>cell_later hb (h p hp)
theorem Keeps.hd {p : Addr × Value} {cs : List (Addr × Value)} {w : World} (h : Keeps (p :: cs) w) : w.cell? p.1 = some p.2:=h p (by simp)
theorem Keeps.tl {p : Addr × Value} {cs : List (Addr × Value)} {w : World} (h : Keeps (p :: cs) w) : Keeps cs w:=fun q hq=>h q (by simp [hq])
theorem Keeps.alloc {cs : List (Addr × Value)} {w : World} (h : Keeps cs w) (o : Obj) : Keeps cs (w.alloc o):=h.below ((Below.refl _ _).alloc (Nat.le_refl _) _)
theorem Keeps.drew {cs : List (Addr × Value)} {w : World} (h : Keeps cs w) : Keeps cs w.drew:=h
theorem planN {P : Program} {ops : Array Oper} {Q : Exit -> Act -> World -> Prop} {S : World -> Prop} {J : Nat -> Bool} {i : Nat} {rest : List (Nat × Bool)} {o : Oper} {a : Act} {w : World} (ho : ops.toList[i]? = some o) (hw : Region.wanted o (yielded ops a.tmps) = false)
 (h : wpPlan P ops Q S J rest (a.put o.dst undef) w) : wpPlan P ops Q S J ((i,true) :: rest) a w:=
 ⟨o,undef,by rw [<- Array.getElem?_toList];exact ho,.inr ⟨hw,rfl⟩,h⟩
theorem planNF {P : Program} {ops : Array Oper} {Q : Exit -> Act -> World -> Prop} {S : World -> Prop} {J : Nat -> Bool} {i : Nat} {rest : List (Nat × Bool)} {o : Oper} {a : Act} {w : World} (ho : ops.toList[i]? = some o) (hw : Region.wanted o (yielded ops a.tmps) = false)
 (hS : J i = true -> S w) (h : wpPlan P ops Q S J rest (a.put o.dst undef) w) : wpPlan P ops Q S J ((i,false) :: rest) a w:=by
 show wpOp P ops Q i _ a w
 rw [Array.getElem?_toList] at ho
 unfold wpOp
 simp only [ho,hw]
 exact ⟨hS,h⟩
def Lat (A w : World) : Prop:=Below A.heap.size A w
theorem Lat.below {A w w' : World} (h : Lat A w) (hb : Below w.heap.size w w') : Lat A w':=bnext h hb
theorem Lat.alloc {A w : World} (h : Lat A w) (o : Obj) : Lat A (w.alloc o):=h.below ((Below.refl _ _).alloc (Nat.le_refl _) _)
theorem Lat.drew {A w : World} (h : Lat A w) : Lat A w.drew:=Below.drew h
theorem cmpI_gt {a b : Nat} (h : b < a) : cmpI a b = 1:=by unfold cmpI;rw [if_neg (by omega),if_pos h]
theorem cmpI_le {a b : Nat} (h : a <= b) : cmpI a b <= 0:=by unfold cmpI;split;decide;rw [if_neg (by omega)];decide
theorem WW_pow_succ (n : Nat) : WW ^ (n + 1) = WW ^ n * WW:=Nat.pow_succ _ _
theorem mul_lt_pow {By q n : Nat} (hB : By < WW ^ n) (hq : q < WW) : By * q < WW ^ (n + 1):=by
 rw [WW_pow_succ]
 rcases Nat.eq_zero_or_pos q with h | h
 . subst h;rw [Nat.mul_zero];exact Nat.mul_pos (WWp_pos n) WW_pos
 . exact Nat.mul_lt_mul'' hB hq
theorem less_any (a : Option Addr) (L capx b2 o2 n cap2 By pb po pcap P q : Nat) (w : World) (hn : n <= 1099511627774) (hcap2 : n <= cap2) (hpc : n + 1 <= pcap) (hy : LimAt w b2 o2 n By) (hB : By < WW ^ n) (hBp : 0 < By)
 (hp : LimAt w pb po (n + 1) P) (hP : P < WW ^ (n + 1)) (hq : P / By < q) (hqW : q < WW) :
 Calls Tryz.prog 149 #[.agg #[.slice a L capx,.slice (some ⟨b2,o2,none⟩) n cap2],.slice (some ⟨pb,po,none⟩) (n + 1) pcap,.int .u64 (q : Int)] w fun e w'=>∃ mb,
  e = .returned (.tuple #[.int .u64 ((P / By : Nat) : Int),.slice (some ⟨mb,0,none⟩) (n + 1) (n + 1)]) /\ (Blk w' mb 118 (uls (n + 1) (dg (By * (P / By)))) /\ w.heap.size <= mb) /\ Below w.heap.size w w':=by
 have Hy:=lid hy;have HB:=lid hB;have HBp:=lid hBp;have Hp:=lid hp;have HP:=lid hP
 obtain ⟨D,hD⟩ : ∃ D,P / By = D:=⟨_,rfl⟩
 have HD:=lid hD
 rw [hD] at hq ⊢
 rw [WW_def] at hqW
 have lpb : pb < w.heap.size:=World.block_lt_of_cell? w _ (hp 0 (by omega))
 have lb2 : 0 < n -> b2 < w.heap.size:=fun h=>World.block_lt_of_cell? w _ (hy 0 h)
 have hn0 : 0 < n:=by
  rcases Nat.eq_zero_or_pos n with h | h
  . subst h;simp at hB;omega
  . exact h
 have Lpb:=lid lpb;have Lb2:=lid (lb2 hn0)
 clear hy hB hBp hp hP hD lpb lb2
 have hmk:=mk_limbs ((n : Int) + 1) (n + 1) (by omega) (by omega)
 obtain ⟨W,hW_W⟩ : ∃ W,(w.alloc (.cells #[.slice a L capx,.slice (some ⟨b2,o2,none⟩) n cap2] 196)) = W:=⟨_,rfl⟩
 have Hb : Hid (Below w.heap.size w W):=by rw [<- hW_W];exact ((Below.refl _ _).alloc (Nat.le_refl _) _)
 have Hx : Hid (Blk W (w.heap.size) 196 [.slice a L capx,.slice (some ⟨b2,o2,none⟩) n cap2]):=by rw [<- hW_W];exact Blk.newAt _ _ _ (by simp)
 obtain ⟨x0,x1⟩:=Hx.out.c2
 go_enter Tryz.func149,Tryz.ntmps149
 go_wp2_with fail
 go_loopw [2,8] (fun qv _ wr=>∃ k : Nat,D < k /\ k <= q /\ qv = .int .u64 (k : Int) /\ Blk wr w.heap.size 196 [.slice a L capx,.slice (some ⟨b2,o2,none⟩) n cap2] /\ Below w.heap.size w wr) (fun qv _ _=>(intOf qv).toNat)
 case atStart=>exact ⟨q,hq,Nat.le_refl _,rfl,Hx.out,Hb.out⟩
 case round=>
  clear x0 x1 Hx Hb
  obtain ⟨k,hk1,hk2,rfl,px,pb'⟩:=hrel
  have Hx:=lid px;have Hb:=lid pb'
  clear px pb'
  obtain ⟨m,rfl⟩ : ∃ m,k = m + 1:=⟨k - 1,by omega⟩
  have hm : IntKind.u64.wrap (((m + 1 : Nat) : Int) - 1) = (m : Int):=by rw [IntKind.wrap_u64];omega
  obtain ⟨x0,x1⟩:=Hx.out.c2
  have hmW : m < WW:=by rw [WW_def];omega
  have HmW:=lid hmW;clear hmW
  have lx:=Hx.out.lt
  have sz:=Hb.out.size
  obtain ⟨W2,hW2⟩ : ∃ W2,wr.alloc (.cells (uls (n + 1) fun _=>0).toArray 118) = W2:=⟨_,rfl⟩
  have hb2 : Below wr.heap.size wr W2:=by rw [<- hW2];exact (Below.refl _ _).alloc (Nat.le_refl _) _
  have HB2 : Hid (Blk W2 wr.heap.size 118 (uls (n + 1) fun _=>0)):=by rw [<- hW2];exact Blk.new _ _ _
  replace Hx:=lid (Hx.out.below hb2)
  have Hbw:=lid (bnext Hb.out hb2)
  have sW2 : W2.heap.size = wr.heap.size + 1:=by rw [<- hW2];simp
  have HsW2:=lid sW2;clear sW2 hb2
  obtain ⟨y0,y1⟩:=Hx.out.c2
  go_wp2_with fail
  refine (lplus_any wr.heap.size (n + 1) 0 (n + 1) (n + 1) (fun _=>0) 0 b2 o2 n cap2 By m W2 (by omega) (by omega) HB2.out (by omega) (fun j _=>by unfold dg;rw [Nat.zero_div];rfl) (Hy.out.below Hbw.out) HB.out (by have:=Lb2.out;omega) HmW.out).mono ?_
  rintro e w3 ⟨rfl,qB,qg⟩
  have eB : uls (n + 1) (patch (fun _=>0) 0 (n + 1) (dg (0 + By * m))) = uls (n + 1) (dg (By * m)):=uls_congr (fun j hj=>by
   have:=patch_in (fun _=>0) 0 (n + 1) (dg (0 + By * m)) j hj
   simpa only [Nat.zero_add] using this)
  rw [eB] at qB
  have HB3:=lid qB;have Hg3:=lid qg
  have hPm:=mul_lt_pow HB.out HmW.out
  have hlnm:=ln_le hPm
  have HPm:=lid hPm
  have Hx3:=lid (Hx.out.grown qg (fun h=>by have:=Option.some.inj h;omega))
  have Hp3 : Hid (LimAt w3 pb po (n + 1) P):=(Hp.out.below Hbw.out).grown qg (fun h=>by have:=Option.some.inj h;have:=Lpb.out;omega)
  have Hb3:=lid (Hbw.out.grown qg (by have:=Hbw.out.size;omega) (fun j e=>by have:=Option.some.inj e;omega))
  clear qB qg eB hPm x0 x1 y0 y1
  obtain ⟨x0,x1⟩:=Hx3.out.c2
  go_wp2_with fail
  refine (cut_any wr.heap.size 0 (n + 1) (n + 1) (By * m) w3 (by omega) (Nat.le_refl _) (HB3.out.lim _ (Nat.le_refl _)) HPm.out).mono ?_
  rintro e w4 ⟨rfl,rfl⟩
  go_wp2_with fail
  refine (lcmp_any wr.heap.size 0 (ln (By * m)) (n + 1) (By * m) pb po (n + 1) pcap P w3 (by omega) hlnm (HB3.out.lim _ hlnm) (lt_ln _) (by omega) hpc Hp3.out HP.out).mono ?_
  rintro e w5 ⟨rfl,hb5⟩
  have Hb5:=lid hb5
  have Hx5:=lid (Hx3.out.below hb5)
  have HB5:=lid (HB3.out.below hb5)
  clear hb5 x0 x1
  obtain ⟨x0,x1⟩:=Hx5.out.c2
  have hdv:=Nat.div_add_mod P By
  have hml:=Nat.mod_lt P HBp.out
  rw [HD.out] at hdv
  by_cases hle : By * m <= P
  . have hmD : D = m:=by
     have h1 : m <= D:=by rw [<- HD.out];exact (Nat.le_div_iff_mul_le HBp.out).2 (by rw [Nat.mul_comm];exact hle)
     omega
    subst hmD
    have hcmp:=cmpI_le hle
    clear hdv hml hle
    generalize cmpI (By * D) P = c at *
    go_wp2
    refine bodyPost_ret (v:=.tuple #[.int .u64 (D : Int),.slice (some ⟨wr.heap.size,0,none⟩) (n + 1) (n + 1)]) (by simp [results,Tryz.results149,go_sem]) rfl ⟨wr.heap.size,rfl,⟨HB5.out,sz⟩,bnext Hb3.out Hb5.out⟩
  . have hlt : D < m:=by
     rcases Nat.lt_or_ge D m with h | h
     . exact h
     . exact absurd (Nat.le_trans (Nat.mul_le_mul_left By h) (by omega)) hle
    have hcmp:=cmpI_gt (a:=By * m) (b:=P) (by omega)
    clear hdv hml
    rw [hcmp]
    go_wp2
    go_roundw
    case rel=>exact ⟨m,hlt,by omega,by go_num,Hx5.out,bnext Hb3.out Hb5.out⟩
    case measure=>simp [intOf]
theorem _root_.Go.RowKit.Below.thenGrown {w a c : World} {b : Nat} (h : Below w.heap.size w a) (k : a.grownBy c (some b)) : w.grownBy c (some b):=
 ⟨k.os.trans h.os,k.tape.trans h.tape,k.output.trans h.output,Nat.le_trans h.size k.size,fun i hi hn=>(k.block i (Nat.lt_of_lt_of_le hi h.size) hn).trans (h.block i hi)⟩
def Wn (w : World) (b o : Nat) (cs : List Value) : Prop:=∀ j (h : j < cs.length),w.cell? ⟨b,o + j,none⟩ = some cs[j]
theorem Wn.cell {w : World} {b o : Nat} {cs : List Value} (h : Wn w b o cs) (j : Nat) (hj : j < cs.length) : w.cell? ⟨b,o + j,none⟩ = some cs[j]:=h j hj
theorem Wn.below {w w' : World} {b o : Nat} {cs : List Value} (h : Wn w b o cs) (hb : Below w.heap.size w w') : Wn w' b o cs:=fun j hj=>cell_later hb (h j hj)
theorem div64_all (h lo y : Nat) (w : World) (hy1 : 9223372036854775808 <= y) (hy : y < WW) (hh : h < y) (hl : lo < WW) :
 Calls Tryz.prog 148 #[.int .u64 (h : Int),.int .u64 (lo : Int),.int .u64 (y : Int)] w fun e w'=>(∃ r,e = .returned (.tuple #[.int .u64 (((h * WW + lo) / y : Nat) : Int),.int .u64 r])) /\ Below w.heap.size w w':=by
 rcases Nat.eq_zero_or_pos h with h0 | h0
 . subst h0
   refine (div64_low lo y w (by omega) hy hl).mono ?_
   rintro e w' ⟨r,rfl,hb⟩
   refine ⟨⟨r,?_⟩,hb⟩
   rw [Nat.zero_mul,Nat.zero_add]
 . refine (div64_any h lo y w hy1 hy hh hl h0).mono ?_
   rintro e w' ⟨r,he,hb⟩
   exact ⟨⟨r,he⟩,hb⟩
theorem take_at {R By at' n : Nat} (hR : R < WW ^ (at' + n + 1)) (j : Nat) :
 patch (dg R) at' (n + 1) (dg (R / WW ^ at' - By * (R / WW ^ at' / By))) j = dg (R - By * (R / WW ^ at' / By) * WW ^ at') j:=by
 obtain ⟨P,hP⟩ : ∃ P,R / WW ^ at' = P:=⟨_,rfl⟩
 obtain ⟨lo,hlo⟩ : ∃ lo,R % WW ^ at' = lo:=⟨_,rfl⟩
 obtain ⟨S,hS⟩ : ∃ S,By * (P / By) = S:=⟨_,rfl⟩
 have hl : lo < WW ^ at':=by rw [<- hlo];exact Nat.mod_lt _ (WWp_pos _)
 have e:=Nat.div_add_mod R (WW ^ at')
 rw [hP,hlo] at e
 have hSP : S <= P:=by rw [<- hS];exact Nat.mul_div_le _ _
 have hPn : P < WW ^ (n + 1):=by
  rw [<- hP]
  refine Nat.div_lt_of_lt_mul ?_
  rw [<- Nat.pow_add]
  exact hR
 rw [hP,hS]
 have e1 : R = P * WW ^ at' + lo:=by rw [<- e,Nat.mul_comm]
 have e2 : R - S * WW ^ at' = (P - S) * WW ^ at' + lo:=by
  have : S * WW ^ at' <= P * WW ^ at':=Nat.mul_le_mul_right _ hSP
  rw [e1,Nat.sub_mul];omega
 rw [e2,dg_join _ _ _ _ hl]
 unfold patch
 by_cases h1 : j < at'
 . rw [if_neg (by omega),if_pos h1,e1,dg_join _ _ _ _ hl,if_pos h1]
 . rw [if_neg h1]
   by_cases h2 : j < at' + (n + 1)
   . rw [if_pos (by omega)]
   . rw [if_neg (by omega),dg_of_lt (k:=at' + n + 1) hR (by omega),dg_of_lt (k:=n + 1) (Nat.lt_of_le_of_lt (Nat.sub_le _ _) hPn) (by omega)]
theorem digit_any (b L capx R b2 o2 n cap2 By at' : Nat) (w : World) (hL : L <= 1099511627775) (hLc : L <= capx) (hn : 0 < n) (hcap2 : n <= cap2) (hB : Blk w b 118 (uls L (dg R))) (hy : LimAt w b2 o2 n By) (hBy : By < WW ^ n) (htop : 9223372036854775808 <= dg By (n - 1))
 (hR : R < By * WW ^ (at' + 1)) (hat : at' + n + 1 <= L) (hne : b2 ≠ b) :
 Calls Tryz.prog 145 #[.agg #[.slice (some ⟨b,0,none⟩) L capx,.slice (some ⟨b2,o2,none⟩) n cap2],.int .i64 (at' : Int)] w fun e w'=>
  e = .returned (.int .u64 ((R / WW ^ at' / By : Nat) : Int)) /\ Blk w' b 118 (uls L (dg (R - By * (R / WW ^ at' / By) * WW ^ at'))) /\ w.grownBy w' (some b):=by
 have hByp : 0 < By:=by
  rcases Nat.eq_zero_or_pos By with h | h
  . subst h;unfold dg at htop;simp at htop
  . exact h
 have hRW : R < WW ^ (at' + n + 1):=by
  refine Nat.lt_of_lt_of_le hR ?_
  rw [show WW ^ (at' + n + 1) = WW ^ n * WW ^ (at' + 1) by rw [<- Nat.pow_add];congr 1;omega]
  exact Nat.mul_le_mul_right _ (Nat.le_of_lt hBy)
 have htake:=fun j=>take_at (R:=R) (By:=By) (at':=at') (n:=n) hRW j
 obtain ⟨P,hP⟩ : ∃ P,R / WW ^ at' = P:=⟨_,rfl⟩
 have hPB : P < By * WW:=by
  rw [<- hP]
  refine Nat.div_lt_of_lt_mul ?_
  rw [<- Nat.mul_assoc,Nat.mul_comm _ By,Nat.mul_assoc,Nat.mul_comm (WW ^ at'),<- Nat.pow_succ']
  exact hR
 have hPW : P < WW ^ (n + 1):=by
  rw [<- hP]
  refine Nat.div_lt_of_lt_mul ?_
  rw [<- Nat.pow_add];exact hRW
 have hPd : ∀ j,dg P j = dg R (at' + j):=fun j=>by rw [<- hP];exact dg_shift R at' j
 obtain ⟨G,hG⟩ : ∃ G,(if dg P n < dg By (n - 1) then (dg P n * WW + dg P (n - 1)) / dg By (n - 1) else WW - 1) = G:=⟨_,rfl⟩
 have hge:=guess_ge (P:=P) (by':=By) hn hPB (by omega) hBy
 rw [hG] at hge
 have hb1W:=dg_lt By (n - 1)
 have hT0W:=dg_lt P (n - 1)
 obtain ⟨top,htp⟩ : ∃ top,dg P n = top:=⟨_,rfl⟩
 obtain ⟨T0,hT0⟩ : ∃ T0,dg P (n - 1) = T0:=⟨_,rfl⟩
 obtain ⟨b1,hb1⟩ : ∃ b1,dg By (n - 1) = b1:=⟨_,rfl⟩
 rw [htp,hT0,hb1] at hG
 rw [hb1] at htop hb1W
 rw [hT0] at hT0W
 have hlb:=hB.lt
 have hlb2 : b2 < w.heap.size:=World.block_lt_of_cell? w _ (hy 0 hn)
 have ctop : w.cell? ⟨b,at' + n,none⟩ = some (.int .u64 (top : Int)):=by rw [hB.cell,uls_get _ _ _ (by omega),<- htp,hPd]
 have cT0 : w.cell? ⟨b,at' + n - 1,none⟩ = some (.int .u64 (T0 : Int)):=by rw [hB.cell,uls_get _ _ _ (by omega),<- hT0,hPd];congr 4;omega
 have cb1 : w.cell? ⟨b2,o2 + (n - 1),none⟩ = some (.int .u64 (b1 : Int)):=by rw [<- hb1];exact hy _ (by omega)
 have hpart : LimAt w b at' (n + 1) P:=fun j hj=>by rw [hB.cell,uls_get _ _ _ (by omega),hPd]
 have i1:=i145x118 L capx (at' + n) ((at' : Int) + (n : Int)) (rfl : (some ⟨b,0,none⟩ : Option Addr) = _) (by omega) (by omega)
 have i2:=i145x118 L capx (at' + n - 1) ((at' : Int) + (n : Int) - 1) (rfl : (some ⟨b,0,none⟩ : Option Addr) = _) (by omega) (by omega)
 have i3:=i145x118 n cap2 (n - 1) ((n : Int) - 1) (rfl : (some ⟨b2,o2,none⟩ : Option Addr) = _) (by omega) (by omega)
 rw [Nat.mul_one,Nat.zero_add] at i1 i2
 rw [Nat.mul_one] at i3
 have hsl : at' + n + 1 - at' = n + 1:=by omega
 have hmk:=mk_limbs ((n : Int) + 1) (n + 1) (by omega) (by omega)
 have Hbh:=lid hB;have Hy:=lid hy;have HBy:=lid hBy;have HByp:=lid hByp;have HPW:=lid hPW;have HP:=lid hP;have Hge:=lid hge;have HGd:=lid hG;have Htake:=lid htake;have Hpart:=lid hpart;have Hne:=lid hne;have HPd:=lid hPd
 have Htop:=lid htop;have Hb1W:=lid hb1W;have HT0W:=lid hT0W
 obtain ⟨D,hD⟩ : ∃ D,P / By = D:=⟨_,rfl⟩
 have HD:=lid hD
 rw [hP,hD]
 rw [hD] at hge
 have Hctop : Hid (Wn w b (at' + n) [.int .u64 (top : Int)]):=fun j hj=>by
  obtain rfl : j = 0:=by simp at hj;omega
  exact ctop
 have HcT0 : Hid (Wn w b (at' + n - 1) [.int .u64 (T0 : Int)]):=fun j hj=>by
  obtain rfl : j = 0:=by simp at hj;omega
  exact cT0
 have Hcb1 : Hid (Wn w b2 (o2 + (n - 1)) [.int .u64 (b1 : Int)]):=fun j hj=>by
  obtain rfl : j = 0:=by simp at hj;omega
  exact cb1
 clear hB hy hBy hByp hPW hP hge hG htake hpart hne htop hb1W hT0W hD hPB hPd hRW hR htp hT0 hb1 ctop cT0 cb1
 obtain ⟨W,hW_W⟩ : ∃ W,(w.alloc (.cells #[.slice (some ⟨b,0,none⟩) L capx,.slice (some ⟨b2,o2,none⟩) n cap2] 196)) = W:=⟨_,rfl⟩
 have Hb : Hid (Below w.heap.size w W):=by rw [<- hW_W];exact ((Below.refl _ _).alloc (Nat.le_refl _) _)
 have Hx : Hid (Blk W (w.heap.size) 196 [.slice (some ⟨b,0,none⟩) L capx,.slice (some ⟨b2,o2,none⟩) n cap2]):=by rw [<- hW_W];exact Blk.newAt _ _ _ (by simp)
 obtain ⟨x0,x1⟩:=Hx.out.c2
 replace Hctop:=lid (Hctop.out.below Hb.out);replace HcT0:=lid (HcT0.out.below Hb.out);replace Hcb1:=lid (Hcb1.out.below Hb.out)
 have ctop : W.cell? ⟨b,at' + n,none⟩ = some (.int .u64 (top : Int)):=Hctop.out.cell 0 (by simp)
 have cT0 : W.cell? ⟨b,at' + n - 1,none⟩ = some (.int .u64 (T0 : Int)):=HcT0.out.cell 0 (by simp)
 have cb1 : W.cell? ⟨b2,o2 + (n - 1),none⟩ = some (.int .u64 (b1 : Int)):=Hcb1.out.cell 0 (by simp)
 go_enter Tryz.func145,Tryz.ntmps145
 by_cases hlt : top < b1
 . have hlt2 : (top : Int) < (b1 : Int):=by omega
   have hdiv:=fun W=>div64_all top T0 b1 W Htop.out Hb1W.out hlt HT0W.out
   have hGe:=HGd.out
   rw [if_pos hlt] at hGe
   rw [hGe] at hdiv
   have HGW : Hid (G < WW):=by
    show _ < _
    rw [<- hGe]
    refine Nat.div_lt_of_lt_mul ?_
    have h1:=HT0W.out
    have h2 : (top + 1) * WW <= b1 * WW:=Nat.mul_le_mul_right _ hlt
    rw [Nat.add_mul,Nat.one_mul] at h2
    omega
   have Hdiv:=lid hdiv
   clear hdiv hGe
   go_wp2_with fail
   have k1 : IntKind.i64.wrap ((at' : Int) + (n : Int)) = (at' : Int) + (n : Int):=by rw [IntKind.wrap_i64];omega
   have k2 : IntKind.i64.wrap ((at' : Int) + (n : Int) - 1) = (at' : Int) + (n : Int) - 1:=by rw [IntKind.wrap_i64];omega
   have k3 : IntKind.i64.wrap ((n : Int) - 1) = (n : Int) - 1:=by rw [IntKind.wrap_i64];omega
   obtain ⟨x0,x1⟩:=Hx.out.c2
   have cT00 : W.cell? ⟨b,at' + n - 1,none⟩ = some (.int .u64 (T0 : Int)):=HcT0.out.cell 0 (by simp)
   have cb10 : W.cell? ⟨b2,o2 + (n - 1),none⟩ = some (.int .u64 (b1 : Int)):=Hcb1.out.cell 0 (by simp)
   refine wp_region_plan (fun w'=>w'.cell? ⟨w.heap.size,0,none⟩ = some (.slice (some ⟨b,0,none⟩) L capx) /\ w'.cell? ⟨w.heap.size,1,none⟩ = some (.slice (some ⟨b2,o2,none⟩) n cap2) /\ w'.cell? ⟨b,at' + n - 1,none⟩ = some (.int .u64 (T0 : Int)) /\ w'.cell? ⟨b2,o2 + (n - 1),none⟩ = some (.int .u64 (b1 : Int))) (fun i=>Nat.blt i 100000) [(0,true),(1,true),(2,true),(3,true),(4,true),(5,true),(6,true),(7,true),(8,true),(9,true),(10,true),(11,true),(12,true),(13,true),(14,true),(15,false),(16,true),(17,true),(18,true),(19,true)] (by kernel_rfl) (by kernel_rfl) rfl (by kernel_rfl) (fun o c a v w=>by cases o.dst<;>exact id) ⟨x0,x1,cT00,cb10⟩ ?_
   iterate 15 (refine planT rfl rfl (v:=?_) (fun w' hw'=>?_) ?_;rotate_left;(focus obtain ⟨q0,q1,q2,q3⟩:=hw';go_simp;try with_reducible rfl);try simp only [Act.put,U1,U2,U3])
   refine planF rfl rfl (fun K hK=>?_)
   go_simp
   with_reducible refine (Hdiv.out _).mono ?_
   rintro e w1 ⟨⟨r,rfl⟩,hq⟩
   have hbn : Below W.heap.size W w1:=by first | exact hq | exact bundrew hq
   clear x0 x1
   clear cT00
   clear cb10
   replace Hx:=kB Hx hbn
   replace HcT0:=lid (HcT0.out.below hbn)
   replace Hcb1:=lid (Hcb1.out.below hbn)
   obtain ⟨x0,x1⟩:=Hx.out.c2
   have cT00 : w1.cell? ⟨b,at' + n - 1,none⟩ = some (.int .u64 (T0 : Int)):=HcT0.out.cell 0 (by simp)
   have cb10 : w1.cell? ⟨b2,o2 + (n - 1),none⟩ = some (.int .u64 (b1 : Int)):=Hcb1.out.cell 0 (by simp)
   replace Hb:=bnx Hb hbn;clear hbn
   refine hK _ _ (fun _=>⟨x0,x1,cT00,cb10⟩) ?_;clear hK K
   try simp only [Act.put,U1,U2,U3]
   iterate 4 (refine planT rfl rfl (v:=?_) (fun w' hw'=>?_) ?_;rotate_left;(focus go_simp;try with_reducible rfl);try simp only [Act.put,U1,U2,U3])
   simp only [wpPlan]
   have sza:=Hb.out.size
   have lx:=Hx.out.lt
   obtain ⟨W2,hW2⟩ : ∃ W2,w1.alloc (.cells (uls (n + 1) fun _=>0).toArray 118) = W2:=⟨_,rfl⟩
   have hb2 : Below w1.heap.size w1 W2:=by rw [<- hW2];exact (Below.refl _ _).alloc (Nat.le_refl _) _
   have HB2 : Hid (Blk W2 w1.heap.size 118 (uls (n + 1) fun _=>0)):=by rw [<- hW2];exact Blk.new _ _ _
   have Hbw:=lid (bnext Hb.out hb2)
   have Hx2:=lid (Hx.out.below hb2)
   clear hb2
   obtain ⟨y0,y1⟩:=Hx2.out.c2
   go_wp2_with fail
   refine (lplus_any w1.heap.size (n + 1) 0 (n + 1) (n + 1) (fun _=>0) 0 b2 o2 n cap2 By G W2 (by omega) (by omega) HB2.out (by omega) (fun j _=>by unfold dg;rw [Nat.zero_div];rfl) (Hy.out.below Hbw.out) HBy.out (by omega) HGW.out).mono ?_
   rintro e w3 ⟨rfl,qB,qg⟩
   have eB : uls (n + 1) (patch (fun _=>0) 0 (n + 1) (dg (0 + By * G))) = uls (n + 1) (dg (By * G)):=uls_congr (fun j hj=>by
    have:=patch_in (fun _=>0) 0 (n + 1) (dg (0 + By * G)) j hj
    simpa only [Nat.zero_add] using this)
   rw [eB] at qB
   have HB3:=lid qB
   have hPm:=mul_lt_pow HBy.out HGW.out
   have hlnm:=ln_le hPm
   have HPm:=lid hPm
   have Hx3:=lid (Hx2.out.grown qg (fun h=>by have:=Option.some.inj h;omega))
   have Hp3 : Hid (LimAt w3 b at' (n + 1) P):=(Hpart.out.below Hbw.out).grown qg (fun h=>by have:=Option.some.inj h;omega)
   have Hbb3:=lid ((Hbh.out.below Hbw.out).grown qg (fun h=>by have:=Option.some.inj h;omega))
   have Hb3:=lid (Hbw.out.grown qg (by have:=Hbw.out.size;omega) (fun j e=>by have:=Option.some.inj e;omega))
   clear qB qg eB hPm x0 x1 y0 y1
   obtain ⟨x0,x1⟩:=Hx3.out.c2
   go_wp2_with fail
   refine (cut_any w1.heap.size 0 (n + 1) (n + 1) (By * G) w3 (by omega) (Nat.le_refl _) (HB3.out.lim _ (Nat.le_refl _)) HPm.out).mono ?_
   rintro e w4 ⟨rfl,rfl⟩
   go_wp2_with fail
   refine (lcmp_any w1.heap.size 0 (ln (By * G)) (n + 1) (By * G) b at' (n + 1) (capx - at') P w3 (by omega) hlnm (HB3.out.lim _ hlnm) (lt_ln _) (by omega) (by omega) Hp3.out HPW.out).mono ?_
   rintro e w5 ⟨rfl,hb5⟩
   have Hb5:=lid hb5
   have Hx5:=lid (Hx3.out.below hb5)
   have HMz:=lid (HB3.out.below hb5)
   have Hbz:=lid (Hbb3.out.below hb5)
   have HBe:=lid (bnext Hb3.out Hb5.out)
   clear hb5 x0 x1
   obtain ⟨x0,x1⟩:=Hx5.out.c2
   by_cases hle : By * G <= P
   . have hDG : D = G:=by
      have h1 : G <= D:=by rw [<- HD.out];exact (Nat.le_div_iff_mul_le HByp.out).2 (by rw [Nat.mul_comm];exact hle)
      have h2:=Hge.out
      rw [HD.out] at h2
      omega
     have HDG:=lid hDG
     have hcmp:=cmpI_le hle
     have Hle:=lid hle
     clear hDG hle
     obtain ⟨c,hc⟩ : ∃ c,cmpI (By * G) P = c:=⟨_,rfl⟩
     rw [hc] at hcmp
     rw [hc]
     clear hc
     have hcmp2 : ¬ 0 < c:=by omega
     go_wp2_with fail
     refine (ltake_any b L at' (n + 1) (capx - at') (dg R) P w1.heap.size 0 (n + 1) (n + 1) (By * G) w5 (by omega) (by omega) Hbz.out (by omega) (fun j _=>(HPd.out j).symm) (HMz.out.lim _ (Nat.le_refl _)) (mul_lt_pow HBy.out (by first | exact HGW.out | exact HDW.out)) (by have:=Hb.out.size;omega) Hle.out HPW.out).mono ?_
     rintro e w6 ⟨rfl,qB6,qg6⟩
     have eB6 : uls L (patch (dg R) at' (n + 1) (dg (P - By * G))) = uls L (dg (R - By * G * WW ^ at')):=uls_congr (fun j _=>by
      have h:=Htake.out j
      rw [HP.out,HD.out,HDG.out] at h
      exact h)
     rw [eB6] at qB6
     have HB6:=lid qB6;have Hg6:=lid qg6
     clear qB6 qg6 eB6
     go_wp2
     refine bodyPost_ret (v:=.int .u64 (D : Int)) (by have hh:=HDG.out;simp [results,Tryz.results145,go_sem,hh]) rfl ⟨rfl,by rw [HDG.out];exact HB6.out,Below.thenGrown HBe.out Hg6.out⟩
   . have hcmp:=cmpI_gt (a:=By * G) (b:=P) (by omega)
     have hDl : P / By < G:=by
      rcases Nat.lt_or_ge (P / By) G with h | h
      . exact h
      . exact absurd (Nat.le_trans (Nat.mul_le_mul_left By h) (Nat.mul_div_le _ _)) hle
     have HDl:=lid hDl
     have HDW : Hid (D < WW):=by have h1:=HGW.out;have h2:=HDl.out;rw [HD.out] at h2;exact Nat.lt_trans h2 h1
     clear hDl hle
     rw [hcmp]
     clear hcmp
     go_wp2_with fail
     refine (less_any (some ⟨b,0,none⟩) L capx b2 o2 n cap2 By b at' (capx - at') P G w5 (by omega) hcap2 (by omega) (Hy.out.below HBe.out) HBy.out HByp.out (Hp3.out.below Hb5.out) HPW.out HDl.out HGW.out).mono ?_
     rintro e w7 ⟨mb,rfl,⟨qM,lmb⟩,qb⟩
     have sz6:=HBe.out.size
     replace HMz:=lid qM
     replace Hbz:=lid (Hbz.out.below qb)
     replace HBe:=lid (bnext HBe.out qb)
     rw [HD.out] at HMz
     rw [HD.out]
     have sz5:=Hbz.out.lt
     clear qM qb x0 x1
     go_wp2_with fail
     refine (ltake_any b L at' (n + 1) (capx - at') (dg R) P mb 0 (n + 1) (n + 1) (By * D) w7 (by omega) (by omega) Hbz.out (by omega) (fun j _=>(HPd.out j).symm) (HMz.out.lim _ (Nat.le_refl _)) (mul_lt_pow HBy.out (by first | exact HGW.out | exact HDW.out)) (by have:=Hb.out.size;omega) (by rw [<- HD.out];exact Nat.mul_div_le _ _) HPW.out).mono ?_
     rintro e w6 ⟨rfl,qB6,qg6⟩
     have eB6 : uls L (patch (dg R) at' (n + 1) (dg (P - By * D))) = uls L (dg (R - By * D * WW ^ at')):=uls_congr (fun j _=>by
      have h:=Htake.out j
      rw [HP.out,HD.out] at h
      exact h)
     rw [eB6] at qB6
     have HB6:=lid qB6;have Hg6:=lid qg6
     clear qB6 qg6 eB6
     go_wp2
     refine bodyPost_ret (results_tmp rfl _ _ _) rfl ⟨rfl,HB6.out,Below.thenGrown HBe.out Hg6.out⟩
 . have hlt2 : ¬ (top : Int) < (b1 : Int):=by omega
   have hGe:=HGd.out
   rw [if_neg hlt,WW_def] at hGe
   have hGe2 : 18446744073709551615 = G:=hGe
   subst hGe2
   have HGW : Hid (18446744073709551615 < WW):=by show _ < _;rw [WW_def];decide
   clear hGe
   have sza:=Hb.out.size
   have lx:=Hx.out.lt
   obtain ⟨W2,hW2⟩ : ∃ W2,W.alloc (.cells (uls (n + 1) fun _=>0).toArray 118) = W2:=⟨_,rfl⟩
   have hb2 : Below W.heap.size W W2:=by rw [<- hW2];exact (Below.refl _ _).alloc (Nat.le_refl _) _
   have HB2 : Hid (Blk W2 W.heap.size 118 (uls (n + 1) fun _=>0)):=by rw [<- hW2];exact Blk.new _ _ _
   have Hbw:=lid (bnext Hb.out hb2)
   have Hx2:=lid (Hx.out.below hb2)
   clear hb2
   obtain ⟨y0,y1⟩:=Hx2.out.c2
   go_wp2_with fail
   refine (lplus_any W.heap.size (n + 1) 0 (n + 1) (n + 1) (fun _=>0) 0 b2 o2 n cap2 By 18446744073709551615 W2 (by omega) (by omega) HB2.out (by omega) (fun j _=>by unfold dg;rw [Nat.zero_div];rfl) (Hy.out.below Hbw.out) HBy.out (by omega) HGW.out).mono ?_
   rintro e w3 ⟨rfl,qB,qg⟩
   have eB : uls (n + 1) (patch (fun _=>0) 0 (n + 1) (dg (0 + By * 18446744073709551615))) = uls (n + 1) (dg (By * 18446744073709551615)):=uls_congr (fun j hj=>by
    have:=patch_in (fun _=>0) 0 (n + 1) (dg (0 + By * 18446744073709551615)) j hj
    simpa only [Nat.zero_add] using this)
   rw [eB] at qB
   have HB3:=lid qB
   have hPm:=mul_lt_pow HBy.out HGW.out
   have hlnm:=ln_le hPm
   have HPm:=lid hPm
   have Hx3:=lid (Hx2.out.grown qg (fun h=>by have:=Option.some.inj h;omega))
   have Hp3 : Hid (LimAt w3 b at' (n + 1) P):=(Hpart.out.below Hbw.out).grown qg (fun h=>by have:=Option.some.inj h;omega)
   have Hbb3:=lid ((Hbh.out.below Hbw.out).grown qg (fun h=>by have:=Option.some.inj h;omega))
   have Hb3:=lid (Hbw.out.grown qg (by have:=Hbw.out.size;omega) (fun j e=>by have:=Option.some.inj e;omega))
   clear qB qg eB hPm x0 x1 y0 y1
   obtain ⟨x0,x1⟩:=Hx3.out.c2
   go_wp2_with fail
   refine (cut_any W.heap.size 0 (n + 1) (n + 1) (By * 18446744073709551615) w3 (by omega) (Nat.le_refl _) (HB3.out.lim _ (Nat.le_refl _)) HPm.out).mono ?_
   rintro e w4 ⟨rfl,rfl⟩
   go_wp2_with fail
   refine (lcmp_any W.heap.size 0 (ln (By * 18446744073709551615)) (n + 1) (By * 18446744073709551615) b at' (n + 1) (capx - at') P w3 (by omega) hlnm (HB3.out.lim _ hlnm) (lt_ln _) (by omega) (by omega) Hp3.out HPW.out).mono ?_
   rintro e w5 ⟨rfl,hb5⟩
   have Hb5:=lid hb5
   have Hx5:=lid (Hx3.out.below hb5)
   have HMz:=lid (HB3.out.below hb5)
   have Hbz:=lid (Hbb3.out.below hb5)
   have HBe:=lid (bnext Hb3.out Hb5.out)
   clear hb5 x0 x1
   obtain ⟨x0,x1⟩:=Hx5.out.c2
   by_cases hle : By * 18446744073709551615 <= P
   . have hDG : D = 18446744073709551615:=by
      have h1 : 18446744073709551615 <= D:=by rw [<- HD.out];exact (Nat.le_div_iff_mul_le HByp.out).2 (by rw [Nat.mul_comm];exact hle)
      have h2:=Hge.out
      rw [HD.out] at h2
      omega
     have HDG:=lid hDG
     have hcmp:=cmpI_le hle
     have Hle:=lid hle
     clear hDG hle
     obtain ⟨c,hc⟩ : ∃ c,cmpI (By * 18446744073709551615) P = c:=⟨_,rfl⟩
     rw [hc] at hcmp
     rw [hc]
     clear hc
     have hcmp2 : ¬ 0 < c:=by omega
     go_wp2_with fail
     refine (ltake_any b L at' (n + 1) (capx - at') (dg R) P W.heap.size 0 (n + 1) (n + 1) (By * 18446744073709551615) w5 (by omega) (by omega) Hbz.out (by omega) (fun j _=>(HPd.out j).symm) (HMz.out.lim _ (Nat.le_refl _)) (mul_lt_pow HBy.out (by first | exact HGW.out | exact HDW.out)) (by have:=Hb.out.size;omega) Hle.out HPW.out).mono ?_
     rintro e w6 ⟨rfl,qB6,qg6⟩
     have eB6 : uls L (patch (dg R) at' (n + 1) (dg (P - By * 18446744073709551615))) = uls L (dg (R - By * 18446744073709551615 * WW ^ at')):=uls_congr (fun j _=>by
      have h:=Htake.out j
      rw [HP.out,HD.out,HDG.out] at h
      exact h)
     rw [eB6] at qB6
     have HB6:=lid qB6;have Hg6:=lid qg6
     clear qB6 qg6 eB6
     go_wp2
     refine bodyPost_ret (v:=.int .u64 (D : Int)) (by have hh:=HDG.out;simp [results,Tryz.results145,go_sem,hh]) rfl ⟨rfl,by rw [HDG.out];exact HB6.out,Below.thenGrown HBe.out Hg6.out⟩
   . have hcmp:=cmpI_gt (a:=By * 18446744073709551615) (b:=P) (by omega)
     have hDl : P / By < 18446744073709551615:=by
      rcases Nat.lt_or_ge (P / By) 18446744073709551615 with h | h
      . exact h
      . exact absurd (Nat.le_trans (Nat.mul_le_mul_left By h) (Nat.mul_div_le _ _)) hle
     have HDl:=lid hDl
     have HDW : Hid (D < WW):=by have h1:=HGW.out;have h2:=HDl.out;rw [HD.out] at h2;exact Nat.lt_trans h2 h1
     clear hDl hle
     rw [hcmp]
     clear hcmp
     go_wp2_with fail
     refine (less_any (some ⟨b,0,none⟩) L capx b2 o2 n cap2 By b at' (capx - at') P 18446744073709551615 w5 (by omega) hcap2 (by omega) (Hy.out.below HBe.out) HBy.out HByp.out (Hp3.out.below Hb5.out) HPW.out HDl.out HGW.out).mono ?_
     rintro e w7 ⟨mb,rfl,⟨qM,lmb⟩,qb⟩
     have sz6:=HBe.out.size
     replace HMz:=lid qM
     replace Hbz:=lid (Hbz.out.below qb)
     replace HBe:=lid (bnext HBe.out qb)
     rw [HD.out] at HMz
     rw [HD.out]
     have sz5:=Hbz.out.lt
     clear qM qb x0 x1
     go_wp2_with fail
     refine (ltake_any b L at' (n + 1) (capx - at') (dg R) P mb 0 (n + 1) (n + 1) (By * D) w7 (by omega) (by omega) Hbz.out (by omega) (fun j _=>(HPd.out j).symm) (HMz.out.lim _ (Nat.le_refl _)) (mul_lt_pow HBy.out (by first | exact HGW.out | exact HDW.out)) (by have:=Hb.out.size;omega) (by rw [<- HD.out];exact Nat.mul_div_le _ _) HPW.out).mono ?_
     rintro e w6 ⟨rfl,qB6,qg6⟩
     have eB6 : uls L (patch (dg R) at' (n + 1) (dg (P - By * D))) = uls L (dg (R - By * D * WW ^ at')):=uls_congr (fun j _=>by
      have h:=Htake.out j
      rw [HP.out,HD.out] at h
      exact h)
     rw [eB6] at qB6
     have HB6:=lid qB6;have Hg6:=lid qg6
     clear qB6 qg6 eB6
     go_wp2
     refine bodyPost_ret (results_tmp rfl _ _ _) rfl ⟨rfl,HB6.out,Below.thenGrown HBe.out Hg6.out⟩
theorem div_digit (X Y j : Nat) : X % (Y * WW ^ (j + 1)) / WW ^ j / Y = dg (X / Y) j:=by
 unfold dg
 rw [Nat.div_div_eq_div_mul,Nat.div_div_eq_div_mul,show Y * WW ^ (j + 1) = WW ^ j * Y * WW by rw [Nat.pow_succ,<- Nat.mul_assoc,Nat.mul_comm Y],Nat.mod_mul_right_div_self,Nat.mul_comm Y]
theorem div_rest (X Y j : Nat) : X % (Y * WW ^ (j + 1)) - Y * (X % (Y * WW ^ (j + 1)) / WW ^ j / Y) * WW ^ j = X % (Y * WW ^ j):=by
 rw [div_digit]
 have e : Y * WW ^ (j + 1) = Y * WW ^ j * WW:=by rw [Nat.pow_succ,<- Nat.mul_assoc]
 have e2 : dg (X / Y) j = X / (Y * WW ^ j) % WW:=by unfold dg;rw [Nat.div_div_eq_div_mul]
 rw [e,Nat.mod_mul,e2]
 have e3 : Y * (X / (Y * WW ^ j) % WW) * WW ^ j = Y * WW ^ j * (X / (Y * WW ^ j) % WW):=by grind
 rw [e3];omega
theorem norm_top {Y : Nat} (h : 0 < Y) : ∃ s,s < 64 /\ s = 64 - blen (dg Y (ln Y - 1)) /\ Y * 2 ^ s < WW ^ ln Y /\ 9223372036854775808 <= dg (Y * 2 ^ s) (ln Y - 1) /\ ln (Y * 2 ^ s) = ln Y /\ 0 < blen (dg Y (ln Y - 1)) /\ blen (dg Y (ln Y - 1)) <= 64:=by
 have hl:=ln_pos h
 obtain ⟨k,hk⟩ : ∃ k,ln Y = k + 1:=⟨ln Y - 1,by omega⟩
 obtain ⟨h1,h2⟩:=ln_spec hk
 obtain ⟨t1,t2,t3⟩:=blen_top Y k h1 h2
 rw [hk,Nat.add_sub_cancel]
 obtain ⟨B,hB⟩ : ∃ B,blen (dg Y k) = B:=⟨_,rfl⟩
 rw [hB] at t1 t2 t3 ⊢
 have h3:=blen_lt Y
 rw [t1] at h3
 have e1 : WW ^ (k + 1) = 2 ^ (64 * k + 64):=by rw [WWp_two];congr 1
 have e2 : (2 : Nat) ^ (64 * k + 64) = 2 ^ (64 * k + B) * 2 ^ (64 - B):=by rw [<- Nat.pow_add];congr 1;omega
 have hlt : Y * 2 ^ (64 - B) < WW ^ (k + 1):=by
  rw [e1,e2]
  exact Nat.mul_lt_mul_of_pos_right h3 (Nat.pow_pos (by decide))
 have hge : 2 ^ (64 * k + B - 1) <= Y:=by
  rcases Nat.lt_or_ge Y (2 ^ (64 * k + B - 1)) with h4 | h4
  . have:=blen_le h4;omega
  . exact h4
 have hge2 : 9223372036854775808 * WW ^ k <= Y * 2 ^ (64 - B):=by
  have e3 : 9223372036854775808 * WW ^ k = 2 ^ (64 * k + B - 1) * 2 ^ (64 - B):=by
   rw [WWp_two,<- Nat.pow_add,show 64 * k + B - 1 + (64 - B) = 63 + 64 * k by omega,Nat.pow_add]
  rw [e3]
  exact Nat.mul_le_mul_right _ hge
 refine ⟨64 - B,by omega,rfl,hlt,?_,?_,t3,t2⟩
 . unfold dg
   have h5 : 9223372036854775808 <= Y * 2 ^ (64 - B) / WW ^ k:=(Nat.le_div_iff_mul_le (WWp_pos k)).2 hge2
   have h6 : Y * 2 ^ (64 - B) / WW ^ k < WW:=by
    refine Nat.div_lt_of_lt_mul ?_
    rw [Nat.pow_succ] at hlt
    exact hlt
   rw [Nat.mod_eq_of_lt h6];exact h5
 . refine ln_eq hlt (Nat.le_trans ?_ hge2)
   exact Nat.le_mul_of_pos_left _ (by decide)
theorem cut_b (b o n cap v : Nat) (w : World) (hm : n <= 1099511627776) (hcap : n <= cap) (hc : LimAt w b o n v) (hv : v < WW ^ n) :
 Calls Tryz.prog 111 #[.slice (some ⟨b,o,none⟩) n cap] w fun e w'=>e = .returned (.slice (some ⟨b,o,none⟩) (ln v) cap) /\ Below w.heap.size w w':=by
 refine (cut_any b o n cap v w hm hcap hc hv).mono ?_
 rintro e w' ⟨he,rfl⟩
 exact ⟨he,Below.refl _ _⟩
theorem down_b (b m cap v n : Nat) (w : World) (hm : m <= 549755813888) (hcap : m <= cap) (hn : n < 64) (hx : LimAt w b 0 m v) (hv : v < WW ^ m) :
 Calls Tryz.prog 113 #[.slice (some ⟨b,0,none⟩) m cap,.int .i64 (n : Int)] w fun e w'=>∃ a k c,e = .returned (.slice a k c) /\ (Lims w' a k (v / 2 ^ n) /\ k <= c /\ k <= 549755813888 /\ v / 2 ^ n < WW ^ k) /\ Below w.heap.size w w':=by
 rcases Nat.eq_zero_or_pos m with h | h
 . subst h
   have hv0 : v = 0:=by simpa using hv
   subst hv0
   refine (down_nil (some ⟨b,0,none⟩) 0 cap n w (by omega) (by omega) (by omega)).mono ?_
   rintro e w' ⟨he,rfl⟩
   exact ⟨none,0,0,he,⟨fun h=>absurd h (by omega),Nat.le_refl _,by omega,by rw [Nat.zero_div];exact WWp_pos 0⟩,Below.refl _ _⟩
 . have h64 : n / 64 = 0:=by omega
   refine (down_any b 0 m cap v n w hm hcap (by omega) hx hv (by omega)).mono ?_
   rintro e w' ⟨he,hB,hb,hle⟩
   exact ⟨_,_,_,he,⟨fun _=>⟨_,_,rfl,hB.lim _ hle⟩,hle,by omega,lt_ln _⟩,hb⟩
theorem natDiv_any (l m : List UInt8) (w : World) (hl : l.length <= 68719476736) (hm : m.length <= 68719476736) (hm0 : 0 < nv m) (hle : nv m <= nv l) :
 Calls Tryz.prog 139 #[.string (bs l),.string (bs m)] w fun e w'=>e = .returned (.tuple #[.string (bs (nt (nv l / nv m))),.string (bs (nt (nv l % nv m))),.bool true]) /\ Below w.heap.size w w':=by
 obtain ⟨X,hX⟩ : ∃ X,nv l = X:=⟨_,rfl⟩
 obtain ⟨Y,hY⟩ : ∃ Y,nv m = Y:=⟨_,rfl⟩
 have h1:=fun W=>of_any l W (by omega)
 have h2:=fun W=>of_any m W (by omega)
 rw [hX] at h1 hle ⊢
 rw [hY] at h2 hle hm0 ⊢
 obtain ⟨s,hs,hse,hYW,htopb,hlnY,hbl0,hbl⟩:=norm_top hm0
 have hX0 : 0 < X:=by omega
 have hlx:=ln_pos hX0
 have hly:=ln_pos hm0
 obtain ⟨lx,hlxe⟩ : ∃ lx,ln X = lx:=⟨_,rfl⟩
 obtain ⟨ly,hlye⟩ : ∃ ly,ln Y = ly:=⟨_,rfl⟩
 have hXl:=lt_ln X
 have hYl:=lt_ln Y
 rw [hlxe] at h1 hlx hXl
 rw [hlye] at h2 hly hYl hYW htopb hlnY hse hbl0 hbl
 obtain ⟨cx,hcx⟩ : ∃ cx,(l.length + 7) / 8 = cx:=⟨_,rfl⟩
 obtain ⟨cy,hcy⟩ : ∃ cy,(m.length + 7) / 8 = cy:=⟨_,rfl⟩
 rw [hcx] at h1
 rw [hcy] at h2
 have hlxc : lx <= cx:=by rw [<- hlxe,<- hcx,<- hX];exact ln_le (WWp_bytes l)
 have hlyc : ly <= cy:=by rw [<- hlye,<- hcy,<- hY];exact ln_le (WWp_bytes m)
 have hcx2 : cx <= 8589934593:=by omega
 have hcy2 : cy <= 8589934593:=by omega
 have hcmp : ¬ cmpI X Y < 0:=by unfold cmpI;rw [if_neg (by omega)];split<;>omega
 have hdq : X * 2 ^ s / (Y * 2 ^ s) = X / Y:=Nat.mul_div_mul_right _ _ (Nat.pow_pos (by decide))
 have hdr : X * 2 ^ s % (Y * 2 ^ s) = X % Y * 2 ^ s:=Nat.mul_mod_mul_right _ _ _
 have hXs : X * 2 ^ s < WW ^ (lx + 1):=by
  rw [Nat.pow_succ]
  exact Nat.mul_lt_mul'' hXl (by rw [WW_two];exact Nat.pow_lt_pow_right (by decide) hs)
 have hlnX:=ln_le hXs
 obtain ⟨X',hX'⟩ : ∃ X',X * 2 ^ s = X':=⟨_,rfl⟩
 obtain ⟨Y',hY'⟩ : ∃ Y',Y * 2 ^ s = Y':=⟨_,rfl⟩
 have hup1:=fun b W h=>up_any b 0 lx cx X s W (by omega) (by omega) h hXl
 have hup2:=fun b W h=>up_any b 0 ly cy Y s W (by omega) (by omega) h hYl
 rw [hX'] at hdq hdr hXs hlnX
 rw [hY'] at hdq hdr hYW htopb hlnY
 simp only [hX',show s / 64 = 0 by omega,Nat.add_zero] at hup1
 simp only [hY',show s / 64 = 0 by omega,Nat.add_zero,hlnY] at hup2
 obtain ⟨lX,hlX⟩ : ∃ lX,ln X' = lX:=⟨_,rfl⟩
 rw [hlX] at hlnX
 simp only [hlX] at hup1
 have hXl' : X' < WW ^ lX:=by rw [<- hlX];exact lt_ln _
 have hcp:=fun b W h=>copied_any (some ⟨b,0,none⟩) lX (lx + 1) X' ((lx : Int) + 2) W (by omega) (by omega) (by omega) h hXl'
 rw [show max ((lx : Int) + 2).toNat lX = lx + 2 by omega] at hcp
 have hlz : ∀ W,Calls Tryz.prog 131 #[.int .u64 (dg Y (ly - 1) : Int)] W fun e w'=>e = .returned (.int .i64 (s : Int)) /\ W = w':=fun W=>by
  have:=lz64_any (dg Y (ly - 1)) W (dg_lt _ _)
  rw [show (64 - (blen (dg Y (ly - 1)) : Int)) = (s : Int) by omega] at this
  exact this
 have hle2 : ly <= lx:=by
  have h3 : ¬ lx < ly:=fun h3=>by
   have:=ln_lt_of (v:=X) (u:=Y) (by rw [hlxe,hlye];exact h3)
   omega
  omega
 have hmk:=mk_limbs ((lx : Int) + 2 - ly) (lx + 2 - ly) (by omega) (by omega)
 have H1:=lid h1;have H2:=lid h2;have Hup1:=lid hup1;have Hup2:=lid hup2;have Hcp:=lid hcp;have Hlz:=lid hlz
 have HXl:=lid hXl;have HYl:=lid hYl;have HYW:=lid hYW;have Htop:=lid htopb;have Hdq:=lid hdq;have Hdr:=lid hdr;have HXl':=lid hXl';have HXs:=lid hXs;have Hm0:=lid hm0
 clear h1 h2 hup1 hup2 hcp hlz hXl hYl hYW htopb hdq hdr hXl' hXs hX hY hse hlxe hlye hcx hcy hX' hY' hlX hlnY hle hX0 hm0 hbl0 hbl
 go_enter Tryz.func139,Tryz.ntmps139
 go_wp2_with fail
 refine (H1.out w).mono ?_
 rintro e w1 ⟨rfl,hB1,hb1,hle1⟩
 have HB1:=lid hB1;have Hb1:=lid hb1;clear hB1 hb1
 go_wp2_with fail
 refine (H2.out w1).mono ?_
 rintro e w2 ⟨rfl,hB2,hb2,hle3⟩
 have HB2:=lid hB2;have Hb2:=lid (bnext Hb1.out hb2)
 replace HB1:=lid (HB1.out.below hb2)
 have s1:=HB1.out.lt;have s2:=HB2.out.lt
 clear hB2 hb2
 have hly0 : ((ly : Int) == 0) = false:=by simp;omega
 go_wp2_with fail
 refine (lcmp_any w.heap.size 0 lx cx X w1.heap.size 0 ly cy Y w2 (by omega) hle1 (HB1.out.lim _ hle1) HXl.out (by omega) hle3 (HB2.out.lim _ hle3) HYl.out).mono ?_
 rintro e w3 ⟨rfl,hb3⟩
 replace HB1:=lid (HB1.out.below hb3);replace HB2:=lid (HB2.out.below hb3)
 have Hb3:=lid (bnext Hb2.out hb3);clear hb3
 obtain ⟨c,hc⟩ : ∃ c,cmpI X Y = c:=⟨_,rfl⟩
 rw [hc] at hcmp ⊢
 clear hc
 have hdec : decide (c < 0) = false:=by simp;omega
 have i1:=i145x118 ly cy (ly - 1) ((ly : Int) - 1) (rfl : (some ⟨w1.heap.size,0,none⟩ : Option Addr) = _) (by omega) (by omega)
 rw [Nat.mul_one,Nat.zero_add] at i1
 have cY : w3.cell? ⟨w1.heap.size,ly - 1,none⟩ = some (.int .u64 (dg Y (ly - 1) : Int)):=by rw [HB2.out.cell,uls_get _ _ _ (by omega)]
 go_wp2_with fail
 refine (Hlz.out w3).mono ?_
 rintro e w4 ⟨rfl,rfl⟩
 clear cY i1
 go_wp2_with fail
 refine (Hup1.out w.heap.size w3 (HB1.out.lim _ hle1)).mono ?_
 rintro e w4 ⟨rfl,qB,qb,qle⟩
 have HB4:=lid qB
 replace HB2:=lid (HB2.out.below qb)
 have Hb4:=lid (bnext Hb3.out qb)
 have s4:=HB4.out.lt
 clear qB qb
 go_wp2_with fail
 refine (Hcp.out w3.heap.size w4 (fun _=>⟨_,_,rfl,HB4.out.lim _ (by omega)⟩)).mono ?_
 rintro e w5 ⟨rfl,qB,qb⟩
 have HB5:=lid qB
 replace HB2:=lid (HB2.out.below qb)
 have Hb5:=lid (bnext Hb4.out qb)
 have s5:=HB5.out.lt
 clear qB qb
 go_wp2_with fail
 refine (Hup2.out w1.heap.size w5 (HB2.out.lim _ hle3)).mono ?_
 rintro e w6 ⟨rfl,qB,qb,qle2⟩
 have HB6:=lid qB
 replace HB5:=lid (HB5.out.below qb)
 have Hb6:=lid (bnext Hb5.out qb)
 have s6:=HB6.out.lt
 have s65:=HB5.out.lt
 have q4:=Hb4.out.size
 clear qB qb HB1 HB2 HB4 Hb1 Hb2 Hb3 Hb4 Hb5
 obtain ⟨M,hM⟩ : ∃ M,lx + 2 - ly = M:=⟨_,rfl⟩
 rw [hM] at hmk
 obtain ⟨lB,hlB⟩ : ∃ lB,w4.heap.size = lB:=⟨_,rfl⟩
 obtain ⟨yB,hyB⟩ : ∃ yB,w5.heap.size = yB:=⟨_,rfl⟩
 rw [hlB] at HB5 s5 s65 q4 ⊢
 rw [hyB] at HB6 s6 s5 ⊢
 obtain ⟨W7,hW7⟩ : ∃ W7,w6.alloc (.cells #[.slice (some ⟨lB,0,none⟩) (lx + 2) (lx + 2),.slice (some ⟨yB,0,none⟩) ly (ly + 1)] 196) = W7:=⟨_,rfl⟩
 have hb7 : Below w6.heap.size w6 W7:=by rw [<- hW7];exact (Below.refl _ _).alloc (Nat.le_refl _) _
 have Hd7 : Hid (Blk W7 w6.heap.size 196 [.slice (some ⟨lB,0,none⟩) (lx + 2) (lx + 2),.slice (some ⟨yB,0,none⟩) ly (ly + 1)]):=by rw [<- hW7];exact Blk.new _ _ _
 have s7 : W7.heap.size = w6.heap.size + 1:=by rw [<- hW7];simp
 obtain ⟨W8,hW8⟩ : ∃ W8,W7.alloc (.cells (uls M fun _=>0).toArray 118) = W8:=⟨_,rfl⟩
 have hb8 : Below W7.heap.size W7 W8:=by rw [<- hW8];exact (Below.refl _ _).alloc (Nat.le_refl _) _
 have Ho : Hid (Blk W8 W7.heap.size 118 (uls M fun _=>0)):=by rw [<- hW8];exact Blk.new _ _ _
 have Hd:=lid (Hd7.out.below hb8)
 replace HB5:=lid ((HB5.out.below hb7).below hb8);replace HB6:=lid ((HB6.out.below hb7).below hb8)
 have Hb8:=lid (bnext (bnext Hb6.out hb7) hb8)
 have sz6:=Hb6.out.size
 have S7:=lid s7
 clear hb7 hb8 Hb6 hlB hyB s7
 obtain ⟨d0,d1⟩:=Hd7.out.c2
 go_wp2_with fail
 have Hlim : Hid (LimAt W8 yB 0 ly Y'):=HB6.out.lim _ (by omega)
 have hMl : M + ly = lx + 2:=by omega
 have hXM : X' < Y' * WW ^ M:=by
  have h1 : WW ^ (ly - 1) <= Y':=top_pos (by have:=Htop.out;omega)
  have h2 : WW ^ (ly - 1) * WW ^ M <= Y' * WW ^ M:=Nat.mul_le_mul_right _ h1
  rw [<- Nat.pow_add,show ly - 1 + M = lx + 1 by omega] at h2
  exact Nat.lt_of_lt_of_le HXs.out h2
 have hYp : 0 < Y':=by
  rcases Nat.eq_zero_or_pos Y' with h | h
  . have:=Htop.out;rw [h] at this;unfold dg at this;simp at this
  . exact h
 have hQM : X' / Y' < WW ^ M:=Nat.div_lt_of_lt_mul hXM
 have HXM:=lid hXM;have HYp:=lid hYp;have HQM:=lid hQM
 clear hXM hYp hQM d0 d1 hW7 hW8 hmk hM
 obtain ⟨oB,hoB⟩ : ∃ oB,W7.heap.size = oB:=⟨_,rfl⟩
 rw [hoB] at Ho ⊢
 have hoB2 : oB = w6.heap.size + 1:=by rw [<- hoB];exact S7.out
 obtain ⟨dB,hdB⟩ : ∃ dB,w6.heap.size = dB:=⟨_,rfl⟩
 rw [hdB] at Hd hoB2 s6 s65 sz6 ⊢
 have hoB3 : dB < oB:=by omega
 clear hoB hdB S7 Hd7 hoB2
 go_loopw [12] (fun x wr=>∃ (k : Nat) (i : Int),k <= M /\ i = (k : Int) - 1 /\ x = .int .i64 i /\ Blk wr dB 196 [.slice (some ⟨lB,0,none⟩) (lx + 2) (lx + 2),.slice (some ⟨yB,0,none⟩) ly (ly + 1)] /\ Blk wr lB 118 (uls (lx + 2) (dg (X' % (Y' * WW ^ k)))) /\ Blk wr oB 118 (uls M fun j=>if k <= j then dg (X' / Y') j else 0) /\ LimAt wr yB 0 ly Y' /\ Below w.heap.size w wr) (fun x _=>(intOf x + 1).toNat)
 case atStart=>
  refine ⟨M,_,Nat.le_refl _,rfl,rfl,Hd.out,?_,?_,Hlim.out,Hb8.out⟩
  . rw [Nat.mod_eq_of_lt HXM.out];exact HB5.out
  . have e : uls M (fun j=>if M <= j then dg (X' / Y') j else 0) = uls M fun _=>0:=uls_congr (fun j hj=>by rw [if_neg (by omega)])
    rw [e];exact Ho.out
 case round=>
  clear Hd HB5 Ho Hlim Hb8 HB6
  obtain ⟨k,i,hk,hi,rfl,pd,pl,po,py,pb⟩:=hrel
  have Hd:=lid pd;have Hl:=lid pl;have Ho:=lid po;have Hy:=lid py;have Hb:=lid pb
  clear pd pl po py pb
  obtain ⟨d0,d1⟩:=Hd.out.c2
  by_cases hk0 : 0 < k
  . obtain ⟨j,rfl⟩ : ∃ j,k = j + 1:=⟨k - 1,by omega⟩
    obtain rfl : i = (j : Int):=by omega
    clear hi
    go_wp2_with fail
    refine (digit_any lB (lx + 2) (lx + 2) (X' % (Y' * WW ^ (j + 1))) yB 0 ly (ly + 1) Y' j wr (by omega) (Nat.le_refl _) hly (by omega) Hl.out Hy.out HYW.out Htop.out (Nat.mod_lt _ (Nat.mul_pos HYp.out (WWp_pos _))) (by omega) (by omega)).mono ?_
    rintro e w9 ⟨rfl,qB,qg⟩
    rw [div_digit] at qB ⊢
    have hrest:=div_rest X' Y' j
    rw [div_digit] at hrest
    rw [hrest] at qB
    have kn : ∀ b,b ≠ lB -> some b ≠ some lB:=fun b h e=>h (Option.some.inj e)
    have Hl9:=lid qB
    have Hd9:=lid (Hd.out.grown qg (kn _ (by omega)))
    have Ho9:=lid (Ho.out.grown qg (kn _ (by omega)))
    have Hy9:=lid (Hy.out.grown qg (kn _ (by omega)))
    have Hb9:=lid (Hb.out.grown qg Hb.out.size (fun b e=>by have:=Option.some.inj e;omega))
    obtain ⟨q,hq⟩ : ∃ q,dg (X' / Y') j = q:=⟨_,rfl⟩
    rw [hq]
    have Hq:=lid hq
    have i2:=i145x118 M M j (j : Int) (rfl : (some ⟨oB,0,none⟩ : Option Addr) = _) (by omega) rfl
    rw [Nat.mul_one,Nat.zero_add] at i2
    have co : w9.cell? ⟨oB,j,none⟩ = some (.int .u64 ((if j + 1 <= j then dg (X' / Y') j else 0 : Nat) : Int)):=by rw [Ho9.out.cell,uls_get _ _ _ (by omega)]
    have fo : w9.frozen? ⟨oB,j,none⟩ = false:=Ho9.out.free j
    clear qB qg hrest hq d0 d1
    obtain ⟨d0,d1⟩:=Hd9.out.c2
    go_wp2
    go_roundw
    case rel=>
     refine ⟨j,(j : Int) - 1,by omega,rfl,by go_num,Hd9.out.so oB j (by omega) _,Hl9.out.so oB j (by omega) _,?_,?_,Hb9.out.sc oB j (by omega) _⟩
     . have h:=Ho9.out.set j (.int .u64 (q : Int))
       rw [uls_set] at h
       have e : uls M (fun i=>if i = j then q else if j + 1 <= i then dg (X' / Y') i else 0) = uls M (fun i=>if j <= i then dg (X' / Y') i else 0):=uls_congr (fun i hi=>by
        by_cases h1 : i = j
        . subst h1;rw [if_pos rfl,if_pos (Nat.le_refl _)];exact Hq.out.symm
        . rw [if_neg h1]
          by_cases h2 : j + 1 <= i
          . rw [if_pos h2,if_pos (by omega)]
          . rw [if_neg h2,if_neg (by omega)])
       rw [e] at h
       exact h
     . exact fun t ht=>cell_set_ne (by dsimp only;omega) (Hy9.out t ht)
    case measure=>simp [intOf]
  . obtain rfl : k = 0:=by omega
    obtain rfl : i = -1:=by omega
    have HL : Hid (LimAt wr oB 0 M (X' / Y')):=fun t ht=>by
     rw [Ho.out.cell,Nat.zero_add,uls_get _ _ _ ht,if_pos (Nat.zero_le _)]
    have hR : X' % (Y' * WW ^ 0) = X' % Y':=by rw [Nat.pow_zero,Nat.mul_one]
    rw [hR] at Hl
    have HRl : Hid (X' % Y' < WW ^ (lx + 2)):=Nat.lt_of_le_of_lt (Nat.mod_le _ _) (Nat.lt_of_lt_of_le HXs.out (Nat.pow_le_pow_right WW_pos (by omega)))
    have hlnR:=ln_le HRl.out
    have HR:=lid (show X' % Y' / 2 ^ s = X % Y by rw [Hdr.out];exact Nat.mul_div_cancel _ (Nat.pow_pos (by decide)))
    clear hi hR
    go_wp2_with fail
    have Hbz:=Hb
    clear Hb
    have Hb : Hid (Below wr.heap.size wr wr):=Below.refl _ _
    obtain ⟨d0,d1⟩:=Hd.out.c2
    refine wp_region_plan (fun w'=>w'.cell? ⟨dB,0,none⟩ = some (.slice (some ⟨lB,0,none⟩) (lx + 2) (lx + 2))) (fun i=>Nat.blt i 100000) [(0,true),(2,true),(3,true),(5,true),(1,false),(4,false),(6,false),(7,false),(8,true),(9,true),(10,true)] (by kernel_rfl) (by kernel_rfl) rfl (by kernel_rfl) (fun o c a v w=>by cases o.dst<;>exact id) d0 ?_
    iterate 4 (refine planT rfl rfl (v:=?_) (fun w' hw'=>?_) ?_;rotate_left;(focus go_simp;try with_reducible rfl);try simp only [Act.put,U1,U2,U3])
    refine planF rfl rfl (fun K hK=>?_)
    go_simp
    with_reducible refine (text_any oB 0 M M (X' / Y') _ (by omega) (Nat.le_refl _) (HL.out.below (by first | exact Hb.out | exact Below.drew Hb.out)) HQM.out).mono ?_
    rintro e y1 ⟨rfl,hq⟩
    have hbn : Below wr.heap.size wr y1:=by first | exact hq | exact bundrew hq
    clear d0 d1
    replace Hd:=kB Hd hbn
    obtain ⟨d0,d1⟩:=Hd.out.c2
    replace Hb:=bnx Hb hbn;clear hbn
    refine hK _ _ (fun _=>d0) ?_;clear hK K
    try simp only [Act.put,U1,U2,U3]
    refine planF rfl rfl (fun K hK=>?_)
    go_simp
    with_reducible refine (cut_b lB 0 (lx + 2) (lx + 2) (X' % Y') _ (by omega) (Nat.le_refl _) ((Hl.out.lim _ (Nat.le_refl _)).below (by first | exact Hb.out | exact Below.drew Hb.out)) HRl.out).mono ?_
    rintro e y2 ⟨rfl,hq⟩
    have hbn : Below y1.heap.size y1 y2:=by first | exact hq | exact bundrew hq
    clear d0 d1
    replace Hd:=kB Hd hbn
    obtain ⟨d0,d1⟩:=Hd.out.c2
    replace Hb:=bnx Hb hbn;clear hbn
    refine hK _ _ (fun _=>d0) ?_;clear hK K
    try simp only [Act.put,U1,U2,U3]
    refine planF rfl rfl (fun K hK=>?_)
    go_simp
    with_reducible refine (down_b lB (ln (X' % Y')) (lx + 2) (X' % Y') s _ (by omega) hlnR hs ((Hl.out.lim _ hlnR).below (by first | exact Hb.out | exact Below.drew Hb.out)) (lt_ln _)).mono ?_
    rintro e y3 ⟨a,k,c2,rfl,⟨qL,qc,qk,qv⟩,hq⟩
    have hbn : Below y2.heap.size y2 y3:=by first | exact hq | exact bundrew hq
    clear d0 d1
    replace Hd:=kB Hd hbn
    obtain ⟨d0,d1⟩:=Hd.out.c2
    replace Hb:=bnx Hb hbn;clear hbn
    refine hK _ _ (fun _=>d0) ?_;clear hK K
    try simp only [Act.put,U1,U2,U3]
    refine planF rfl rfl (fun K hK=>?_)
    go_simp
    with_reducible refine (text_lims a k c2 (X' % Y' / 2 ^ s) _ (by omega) qc qL qv).mono ?_
    rintro e y4 ⟨rfl,hq⟩
    have hbn : Below y3.heap.size y3 y4:=by first | exact hq | exact bundrew hq
    clear d0 d1
    replace Hd:=kB Hd hbn
    obtain ⟨d0,d1⟩:=Hd.out.c2
    replace Hb:=bnx Hb hbn;clear hbn
    refine hK _ _ (fun _=>d0) ?_;clear hK K
    try simp only [Act.put,U1,U2,U3]
    iterate 3 (refine planT rfl rfl (v:=?_) (fun w' hw'=>?_) ?_;rotate_left;(focus go_simp;try with_reducible rfl);try simp only [Act.put,U1,U2,U3])
    simp only [wpPlan]
    go_wp2
    refine bodyPost_ret (v:=.tuple #[.string (bs (nt (X / Y))),.string (bs (nt (X % Y))),.bool true]) (by have h1:=Hdq.out;have h2:=HR.out;simp [results,Tryz.results139,go_sem,h1,h2]) rfl ⟨rfl,bnext Hbz.out Hb.out⟩
section
variable {P : Program} {md : Region.Mode} {ops : Array Oper} {Q : Exit -> Act -> World -> Prop} {S : World -> Prop} {J : Nat -> Bool}
def allOk (md : Region.Mode) (ops : Array Oper) (J : Nat -> Bool) (es : List Nat) (D : Nat -> List Nat) (last : List (Nat × Bool)) : Nat -> Array Bool -> Bool
 | 0,listed=>es.all (fun k=>listed.getD k false) && planOk md ops J last listed
 | n + 1,listed=>listed.size == ops.size && !(Region.ready md ops listed).isEmpty && (Region.ready md ops listed).all fun k=>es.contains k && !(listed.getD k false) && decide (k < listed.size) && (D k).all (fun d=>es.contains d && listed.getD d false) && allOk md ops J es D last n (listed.setIfInBounds k true)
def dnOf (es : List Nat) (listed : Array Bool) (i : Nat) : Bool:=es.contains i && listed.getD i false
theorem dnOf_set {es : List Nat} {listed : Array Bool} {k : Nat} (hk : es.contains k = true) (hl : k < listed.size) : dnOf es (listed.setIfInBounds k true) = fun i=>i == k || dnOf es listed i:=by
 funext i
 unfold dnOf
 by_cases h : i = k
 . subst h
   simp only [beq_self_eq_true,Bool.true_or]
   rw [hk]
   simp [hl]
 . have h2 : (i == k) = false:=by simpa using h
   rw [h2,Bool.false_or,getD_set_ne false (fun e=>h e.symm)]
theorem wpAnyJ_of_all (hs : Region.noSelect ops = true) (hQ : ∀ (o : Oper) c a v w,Q (.panic c) (a.put o.dst v) w -> Q (.panic c) a w) (es : List Nat) (D : Nat -> List Nat) (last : List (Nat × Bool)) (I : (Nat -> Bool) -> Act -> World -> Prop)
 (h2 : ∀ dn a w,I dn a w -> S w) (h3 : ∀ k ∈ es,∀ dn a w,dn k = false -> (∀ d ∈ D k,dn d = true) -> I dn a w -> wpOp P ops Q k (I fun i=>i == k || dn i) a w) (h4 : ∀ dn a w,(∀ k ∈ es,dn k = true) -> I dn a w -> wpPlan P ops Q S J last a w) (n : Nat) :
 ∀ (listed : Array Bool) (a : Act) (w : World),Closed md ops listed -> allOk md ops J es D last n listed = true -> I (dnOf es listed) a w -> wpAnyJ P md ops Q S J (last.length + n) listed a w:=by
 induction n with
 | zero =>
   intro listed a w hc hok h
   simp only [allOk,Bool.and_eq_true,List.all_eq_true] at hok
   exact wpAnyJ_of_plan hs hQ last _ _ _ hc hok.2 (fun _=>h2 _ _ _ h) (h4 _ _ _ (fun k hk=>by unfold dnOf;rw [hok.1 k hk];simpa using hk) h)
 | succ n ih =>
   intro listed a w hc hok h
   simp only [allOk,Bool.and_eq_true,List.all_eq_true] at hok
   obtain ⟨⟨_,h5⟩,h6⟩:=hok
   refine ⟨fun h0=>(by rw [h0] at h5;simp at h5),fun k hk=>?_⟩
   obtain ⟨⟨⟨⟨q1,q2⟩,q3⟩,q4⟩,q5⟩:=h6 k hk
   have q3' : k < listed.size:=of_decide_eq_true q3
   have hf : dnOf es listed k = false:=by unfold dnOf;rw [q1];simpa using q2
   refine wpOp_mono (fun a1 w1 q=>⟨fun _=>h2 _ _ _ q,ih _ _ _ (hc.list hk) q5 ?_⟩) (h3 k (by simpa using q1) _ a w hf (fun d hd=>by unfold dnOf;rw [Bool.and_eq_true];exact q4 d hd) h)
   rw [dnOf_set q1 q3']
   exact q
def planOkA (md : Region.Mode) (ops : Array Oper) (J : Nat -> Bool) (es : List Nat) (D : Nat -> List Nat) (last : List (Nat × Bool)) : List Nat -> Array Bool -> Bool
 | [],listed=>es.all (fun k=>!(listed.getD k false)) && allOk md ops J es D last es.length listed
 | x :: r,listed=>(Region.ready md ops listed).contains x && Region.free md ops listed x && waits md ops J x && planOkA md ops J es D last r (listed.setIfInBounds x true)
def wpAll (P : Program) (ops : Array Oper) (Q : Exit -> Act -> World -> Prop) (S : World -> Prop) (J : Nat -> Bool) (es : List Nat) (D : Nat -> List Nat) (last : List (Nat × Bool)) (a : Act) (w : World) : Prop:=
 ∃ I : (Nat -> Bool) -> Act -> World -> Prop,I (fun _=>false) a w /\ (∀ dn a w,I dn a w -> S w) /\ (∀ k ∈ es,∀ dn a w,dn k = false -> (∀ d ∈ D k,dn d = true) -> I dn a w -> wpOp P ops Q k (I fun i=>i == k || dn i) a w) /\ ∀ dn a w,(∀ k ∈ es,dn k = true) -> I dn a w -> wpPlan P ops Q S J last a w
def wpPlanA (P : Program) (ops : Array Oper) (Q : Exit -> Act -> World -> Prop) (S : World -> Prop) (J : Nat -> Bool) (es : List Nat) (D : Nat -> List Nat) (last : List (Nat × Bool)) : List Nat -> Act -> World -> Prop
 | [],a,w=>wpAll P ops Q S J es D last a w
 | x :: r,a,w=>∃ o v,ops[x]? = some o /\ YieldsIf P ops S o v a /\ wpPlanA P ops Q S J es D last r (a.put o.dst v) w
theorem wpAnyJ_of_planA (hs : Region.noSelect ops = true) (hQ : ∀ (o : Oper) c a v w,Q (.panic c) (a.put o.dst v) w -> Q (.panic c) a w) (es : List Nat) (D : Nat -> List Nat) (last : List (Nat × Bool)) (r : List Nat) :
 ∀ (listed : Array Bool) (a : Act) (w : World),Closed md ops listed -> planOkA md ops J es D last r listed = true -> S w -> wpPlanA P ops Q S J es D last r a w -> wpAnyJ P md ops Q S J (last.length + es.length + r.length) listed a w:=by
 induction r with
 | nil =>
   intro listed a w hc hok hS h
   simp only [planOkA,Bool.and_eq_true,List.all_eq_true] at hok
   obtain ⟨I,h1,h2,h3,h4⟩:=h
   have e : dnOf es listed = fun _=>false:=by
    funext i
    unfold dnOf
    by_cases hi : es.contains i = true
    . have:=hok.1 i (by simpa using hi)
      rw [hi];simpa using this
    . simp only [Bool.not_eq_true] at hi
      rw [hi];rfl
   exact wpAnyJ_of_all hs hQ es D last I h2 h3 h4 es.length listed a w hc hok.2 (by rw [e];exact h1)
 | cons x r ih =>
   intro listed a w hc hok hS h
   simp only [planOkA,Bool.and_eq_true] at hok
   obtain ⟨⟨⟨h1,h2⟩,h3⟩,h4⟩:=hok
   obtain ⟨o,v,ho,hy,h⟩:=h
   exact wpAnyJ_first ho (Region.noSelect_spec hs) (fun c a w=>hQ o c a v w) h3 (last.length + es.length + r.length) listed a w hc h2 (by simpa using h1) hy hS (ih _ _ _ (hc.list (by simpa using h1)) h4 hS h)
theorem wp_region_planA {id : Nat} {a : Act} {w : World} (S : World -> Prop) (J : Nat -> Bool) (es : List Nat) (D : Nat -> List Nat) (last : List (Nat × Bool)) (r : List Nat) (hm : P.follows .mixedOrders = true) (hs : Region.noSelect ops = true)
 (hl : last.length + es.length + r.length = ops.size) (hok : planOkA .any ops J es D last r (Array.replicate ops.size false) = true)
 (hQ : ∀ (o : Oper) c a v w,Q (.panic c) (a.put o.dst v) w -> Q (.panic c) a w) (hS : S w.drew) (h : wpPlanA P ops Q S J es D last r a w.drew) : (Code.region id ops true).wp P Q a w:=by
 refine wp_region_any hm (wpAny_of_J ops.size _ _ _ ?_ (S:=S) (J:=J))
 have:=wpAnyJ_of_planA (md:=.any) (S:=S) (J:=J) hs hQ es D last r (Array.replicate ops.size false) a w.drew (Closed.empty _) hok hS h
 rw [hl] at this
 exact this
theorem planAT {x : Nat} {es : List Nat} {D : Nat -> List Nat} {last : List (Nat × Bool)} {r : List Nat} {o : Oper} {v : Value} {a : Act} {w : World} (ho : ops.toList[x]? = some o) (hw : Region.wanted o (yielded ops a.tmps) = true)
 (hy : ∀ w',S w' -> (execOp a.eval o).run P w' = .ok (.value v) w') (h : wpPlanA P ops Q S J es D last r (a.put o.dst v) w) : wpPlanA P ops Q S J es D last (x :: r) a w:=
 ⟨o,v,by rw [<- Array.getElem?_toList];exact ho,.inl ⟨hw,hy⟩,h⟩
theorem planAI {es : List Nat} {D : Nat -> List Nat} {last : List (Nat × Bool)} {a : Act} {w : World} (I : Act -> (Nat -> Bool) -> Act -> World -> Prop) (h1 : I a (fun _=>false) a w) (h2 : ∀ dn a' w',I a dn a' w' -> S w')
 (h3 : ∀ k ∈ es,∀ dn a' w',dn k = false -> (∀ d ∈ D k,dn d = true) -> I a dn a' w' -> wpOp P ops Q k (I a fun i=>i == k || dn i) a' w') (h4 : ∀ dn a' w',(∀ k ∈ es,dn k = true) -> I a dn a' w' -> wpPlan P ops Q S J last a' w') : wpPlanA P ops Q S J es D last [] a w:=
 ⟨I a,h1,h2,h3,h4⟩
theorem opF {k : Nat} {o : Oper} {a : Act} {w : World} {R : Act -> World -> Prop} (ho : ops.toList[k]? = some o) (hw : Region.wanted o (yielded ops a.tmps) = true) (h : ∀ K : Act -> World -> Prop,(∀ a' w',R a' w' -> K a' w') -> o.wp P a w K Q) : wpOp P ops Q k R a w:=by
 rw [Array.getElem?_toList] at ho
 unfold wpOp
 simp only [ho,hw,if_true]
 exact .inl (h _ (fun a' w' h=>h))
theorem put_self (a : Act) (k : Nat) : a.put (some k) (a.tmps.getD k undef) = a:=by
 unfold Act.put
 have : a.tmps.setIfInBounds k (a.tmps.getD k undef) = a.tmps:=by
  apply Array.ext
  . simp
  . intro i h1 h2
    rw [Array.getElem_setIfInBounds]
    split
    . rename_i e;subst e;simp [h2]
    . rfl
 cases a
 simp only at this ⊢
 rw [this]
end
end Go.Proofs.YtidjljldhdckiaaGreatDoor
