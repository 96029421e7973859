/- A statement whose order is open,walked in one order: what only reads is taken first;S is asked behind each operation but the last ones (J),for which everything else waits. -/
import Derived.Test.YtdaadlblknpipaaGreatDoorZ6
import Derived.OrdersHeld
import Derived.Test.YtdaadlblknpipaaGreatDoorZ5
set_option linter.unusedVariables false
set_option linter.unusedSimpArgs false
set_option maxRecDepth 100000
set_option maxHeartbeats 16000000
namespace Go.Proofs.YtdaadlblknpipaaGreatDoor
open Go.RowKit
theorem U1 {α : Type} (l : List α) (i : Nat) (a : α) : l.toArray.setIfInBounds i a = (l.set i a).toArray:=by simp
theorem U2 {α : Type} (x : α) (l : List α) (a : α) : (x :: l).set 0 a = a :: l:=rfl
theorem U3 {α : Type} (x : α) (l : List α) (i : Nat) (a : α) : (x :: l).set (i + 1) a = x :: l.set i a:=rfl
section
variable {P : Program} {md : Region.Mode} {ops : Array Oper} {Q : Exit -> Act -> World -> Prop} {S : World -> Prop} {J : Nat -> Bool}
def qD (P : Program) (md : Region.Mode) (ops : Array Oper) (Q : Exit -> Act -> World -> Prop) (S : World -> Prop) (J : Nat -> Bool) : Nat -> Array Bool -> Act -> World -> Prop
 | 0,listed,a,w=>Region.ready md ops listed = [] /\ Q .normal a w
 | fuel + 1,listed,a,w =>
   (Region.ready md ops listed = [] -> Q .normal a w) /\
   ∀ i ∈ Region.ready md ops listed,wpOp P ops Q i (fun a' w'=>(J i = true -> S w') /\ qD P md ops Q S J fuel (listed.setIfInBounds i true) a' w') a w
theorem Ck (fuel : Nat) : ∀ (listed : Array Bool) (a : Act) (w : World),qD P md ops Q S J fuel listed a w -> wpAny P md ops Q fuel listed a w:=by
 induction fuel with
 | zero=>intro _ _ _ h;exact h
 | succ n ih=>intro _ _ _ h;exact ⟨h.1,fun i hi=>wpOp_mono (fun a' w' h'=>ih _ a' w' h'.2) (h.2 i hi)⟩
def reach (md : Region.Mode) (ops : Array Oper) (i : Nat) : Nat -> Nat -> Bool
 | 0,_=>false
 | n + 1,j=>match ops[j]? with
   | some oj=>oj.after.any fun e=>Region.binds md e && (e.on == i || reach md ops i n e.on)
   | none=>false
def waits (md : Region.Mode) (ops : Array Oper) (J : Nat -> Bool) (i : Nat) : Bool:=
 (List.range ops.size).all fun j=>j == i || J j || reach md ops i ops.size j
def Closed (md : Region.Mode) (ops : Array Oper) (listed : Array Bool) : Prop:=
 ∀ (k : Nat) (ok : Oper),listed.getD k false = true -> ops[k]? = some ok -> ∀ e ∈ ok.after,Region.binds md e = true -> listed.getD e.on false = true
theorem Closed.empty (n : Nat) : Closed md ops (Array.replicate n false):=by
 intro k ok h;exfalso
 rw [Array.getD_eq_getD_getElem?,Array.getElem?_replicate] at h;split at h<;>simp at h
theorem Closed.list {listed : Array Bool} (h : Closed md ops listed) {j : Nat} (hj : j ∈ Region.ready md ops listed) : Closed md ops (listed.setIfInBounds j true):=by
 obtain ⟨Kn,oj,jT,hall⟩:=mem_ready.1 hj;have up : ∀ n,listed.getD n false = true -> (listed.setIfInBounds j true).getD n false = true:=by
  intro n hn;by_cases hjn : j = n
  . subst hjn;rcases Nat.lt_or_ge j listed.size with h' | h'
    . simp [h']
    . simp [Array.getD_eq_getD_getElem?,Array.getElem?_eq_none h'] at hn
  . rw [getD_set_ne false hjn];exact hn
 intro k ok hk hok e he hb;by_cases hjk : j = k
 . subst hjk;rw [jT] at hok;cases hok
   exact up _ (hall e he hb)
 . rw [getD_set_ne false hjk] at hk;exact up _ (h k ok hk hok e he hb)
theorem aiC {listed : Array Bool} (hc : Closed md ops listed) {i : Nat} (n : Nat) : ∀ (j : Nat) (oj : Oper),ops[j]? = some oj -> (∀ e ∈ oj.after,Region.binds md e = true -> listed.getD e.on false = true) -> reach md ops i n j = true -> listed.getD i false = true:=by
 induction n with
 | zero=>intro j oj _ _ h;cases h
 | succ n ih =>
   intro j oj jT hall h;unfold reach at h;rw [jT] at h;simp only at h;rw [Array.any_eq_true] at h;obtain ⟨k,hk,h2⟩:=h;simp only [Bool.and_eq_true,Bool.or_eq_true,beq_iff_eq] at h2;have h3:=hall _ (Array.getElem_mem hk) h2.1;rcases h2.2 with h4 | h4
   . rw [<- h4];exact h3
   . cases ho : ops[oj.after[k].on]? with
     | none =>
       cases n with
       | zero=>cases h4
       | succ m=>unfold reach at h4;rw [ho] at h4;cases h4
     | some ok=>exact ih _ ok ho (hc _ ok h3 ho) h4
theorem akp {listed : Array Bool} (hc : Closed md ops listed) {i : Nat} (h : waits md ops J i = true) (xJ : listed.getD i true = false) {j : Nat} (hj : j ∈ Region.ready md ops listed) (hne : j ≠ i) : J j = true:=by
 obtain ⟨Kn,oj,jT,hall⟩:=mem_ready.1 hj;unfold waits at h;rw [List.all_eq_true] at h;have h1:=h j (List.mem_range.2 (Array.getElem?_eq_some_iff.1 jT).1);simp only [Bool.or_eq_true,beq_iff_eq] at h1;rcases h1 with (h1 | h1) | h1
 . exact absurd h1 hne
 . exact h1
 . have h2:=aiC hc _ j oj jT hall h1;rcases Nat.lt_or_ge i listed.size with h' | h'
   . simp [h'] at xJ h2;rw [xJ] at h2;cases h2
   . simp [Array.getD_eq_getD_getElem?,Array.getElem?_eq_none h'] at h2
theorem Ci {i : Nat} {oi : Oper} {v : Value} (hi : ops[i]? = some oi) (tF : ∀ (j : Nat) (o : Oper) cs b,ops[j]? = some o -> o.op ≠ .select cs b)
 (hQ : ∀ c a w,Q (.panic c) (a.put oi.dst v) w -> Q (.panic c) a w) (hJ : waits md ops J i = true) (fuel : Nat) :
 ∀ (listed : Array Bool) (a : Act) (w : World),Closed md ops listed -> Region.free md ops listed i = true -> i ∈ Region.ready md ops listed -> YieldsIf P ops S oi v a -> S w ->
  qD P md ops Q S J fuel (listed.setIfInBounds i true) (a.put oi.dst v) w -> qD P md ops Q S J (fuel + 1) listed a w:=by
 induction fuel with
 | zero =>
   intro listed a w _ _ hr hy hS H;refine ⟨fun h=>(by rw [h] at hr;cases hr),fun j hj=>?_⟩;by_cases hji : j = i
   . subst hji;exact hy.wpOp hi hS ⟨fun _=>hS,H⟩
   . have:=ready_mono hj hji;rw [H.1] at this;cases this
 | succ n ih =>
   intro listed a w hc hf hr hy hS H;refine ⟨fun h=>(by rw [h] at hr;cases hr),fun j hj=>?_⟩;by_cases hji : j = i
   . subst hji;exact hy.wpOp hi hS ⟨fun _=>hS,H⟩
   . have h1:=H.2 j (ready_mono hj hji);obtain ⟨Kn,oj,jT,hall⟩:=mem_ready.1 hj;have xJ:=(mem_ready.1 hr).1;have ae5 : ∀ e ∈ oj.after,Region.binds md e = true -> e.on ≠ i:=by
      intro e he hb heq;have h2:=hall e he hb;rw [heq] at h2;rcases Nat.lt_or_ge i listed.size with h' | h'
      . simp [h'] at xJ h2;rw [xJ] at h2;cases h2
      . simp [Array.getElem?_eq_none h'] at h2
     have hjJ : J j = true:=akp hc hJ xJ hj hji;have h2:=wpOp_putIf jT (Region.free_spec hi hf j oj jT hji Kn ae5) (fun cs b=>tF i oi cs b hi) (fun cs b=>tF j oj cs b jT) hQ hy h1;have hf' : Region.free md ops (listed.setIfInBounds j true) i = true:=by
      unfold Region.free at hf ⊢;rw [hi] at hf ⊢;simp only [List.all_eq_true] at hf ⊢;intro k hk;have:=hf k hk;simp only [Bool.or_eq_true] at this ⊢;rcases this with (h3 | h3) | h3
      . exact .inl (.inl h3)
      . refine .inl (.inr ?_);by_cases hjk : j = k
        . subst hjk;rcases Nat.lt_or_ge j listed.size with h' | h'
          . simp [h']
          . simp
        . rw [getD_set_ne true hjk];exact h3
      . exact .inr h3
     refine wpOp_mono (fun a' w' h3=>⟨h3.2.1,ih (listed.setIfInBounds j true) a' w' (hc.list hj) hf' (ready_mono hr (Ne.symm hji)) h3.1 (h3.2.1 hjJ) ?_⟩) h2;rw [Array.setIfInBounds_comm _ _ hji];exact h3.2.2
def qj (md : Region.Mode) (ops : Array Oper) (J : Nat -> Bool) : List (Nat × Bool) -> Array Bool -> Bool
 | [],listed=>(Region.ready md ops listed).isEmpty
 | (i,true) :: rest,listed=>(Region.ready md ops listed).contains i && Region.free md ops listed i && waits md ops J i && qj md ops J rest (listed.setIfInBounds i true)
 | (i,false) :: rest,listed=>Region.ready md ops listed == [i] && (J i || !rest.any (·.2)) && qj md ops J rest (listed.setIfInBounds i true)
def aV (P : Program) (ops : Array Oper) (Q : Exit -> Act -> World -> Prop) (S : World -> Prop) (J : Nat -> Bool) : List (Nat × Bool) -> Act -> World -> Prop
 | [],a,w=>Q .normal a w
 | (i,true) :: rest,a,w=>∃ o v,ops[i]? = some o /\ YieldsIf P ops S o v a /\ aV P ops Q S J rest (a.put o.dst v) w
 | (i,false) :: rest,a,w=>wpOp P ops Q i (fun a' w'=>(J i = true -> S w') /\ aV P ops Q S J rest a' w') a w
theorem Cj (hs : Region.noSelect ops = true) (hQ : ∀ (o : Oper) c a v w,Q (.panic c) (a.put o.dst v) w -> Q (.panic c) a w) (plan : List (Nat × Bool)) :
 ∀ (listed : Array Bool) (a : Act) (w : World),Closed md ops listed -> qj md ops J plan listed = true -> (plan.any (·.2) = true -> S w) -> aV P ops Q S J plan a w -> qD P md ops Q S J plan.length listed a w:=by
 induction plan with
 | nil =>intro listed a w _ hok _ h;exact ⟨List.isEmpty_iff.1 hok,h⟩
 | cons x rest ih =>
   obtain ⟨i,b⟩:=x;intro listed a w hc hok hS h;cases b with
   | true =>simp only [qj,Bool.and_eq_true] at hok;obtain ⟨⟨⟨h1,h2⟩,h3⟩,h4⟩:=hok;obtain ⟨o,v,ho,hy,h⟩:=h;have hSw : S w:=hS zm;exact Ci ho (Region.noSelect_spec hs) (fun c a w=>hQ o c a v w) h3 rest.length listed a w hc h2 (by simpa using h1) hy hSw (ih _ _ _ (hc.list (by simpa using h1)) h4 (fun _=>hSw) h)
   | false =>
     simp only [qj,Bool.and_eq_true,beq_iff_eq] at hok;obtain ⟨⟨h1,h2⟩,h3⟩:=hok;refine ⟨fun h0=>(by rw [h1] at h0;cases h0),fun j hj=>?_⟩;rw [h1] at hj;obtain rfl : j = i:=by simpa using hj
     refine wpOp_mono (fun a' w' h4=>⟨h4.1,ih _ _ _ (hc.list (by rw [h1];exact List.mem_singleton.2 rfl)) h3 (fun rB=>?_) h4.2⟩) h;rw [Bool.or_eq_true] at h2;rcases h2 with h2 | h2
     . exact h4.1 h2
     . rw [rB] at h2;cases h2
theorem bE {id : Nat} {a : Act} {w : World} (S : World -> Prop) (J : Nat -> Bool) (plan : List (Nat × Bool)) (hm : P.follows .mixedOrders = true) (hs : Region.noSelect ops = true)
 (hl : plan.length = ops.size) (hok : qj .any ops J plan (Array.replicate ops.size false) = true)
 (hQ : ∀ (o : Oper) c a v w,Q (.panic c) (a.put o.dst v) w -> Q (.panic c) a w) (hS : S w.drew) (h : aV P ops Q S J plan a w.drew) : (Code.region id ops true).wp P Q a w:=by
 refine wp_region_any hm (Ck ops.size _ _ _ ?_ (S:=S) (J:=J));have:=Cj (md:=.any) (S:=S) (J:=J) hs hQ plan (Array.replicate ops.size false) a w.drew (Closed.empty _) hok (fun _=>hS) h;rw [hl] at this;exact this
theorem LS {i : Nat} {rest : List (Nat × Bool)} {o : Oper} {v : Value} {a : Act} {w : World} (ho : ops.toList[i]? = some o) (hw : Region.wanted o (yielded ops a.tmps) = true)
 (hy : ∀ w',S w' -> (execOp a.eval o).run P w' = .ok (.value v) w') (h : aV P ops Q S J rest (a.put o.dst v) w) : aV P ops Q S J ((i,true) :: rest) a w:=
 ⟨o,v,by rw [<- Array.getElem?_toList];exact ho,.inl ⟨hw,hy⟩,h⟩
theorem pT {i : Nat} {rest : List (Nat × Bool)} {o : Oper} {v : Value} {a : Act} {w : World} (ho : ops.toList[i]? = some o) (hw : Region.wanted o (yielded ops a.tmps) = true)
  (h : aV P ops Q S J rest (a.put o.dst v) w) (hy : ∀ w',S w' -> (execOp a.eval o).run P w' = .ok (.value v) w':=by (intro w' hw';go_simp;try with_reducible rfl)) : aV P ops Q S J ((i,true) :: rest) a w:=LS ho hw hy h
theorem UU : (∀ (a : Act) (d : Nat) (v : Value),a.put (some d) v = ⟨a.tmps.setIfInBounds d v,a.defers⟩) /\ (∀ (a : Act) (v : Value),a.put none v = a) /\ (∀ (α : Type) (l : List α) (i : Nat) (a : α),l.toArray.setIfInBounds i a = (l.set i a).toArray) /\ (∀ (α : Type) (x : α) (l : List α) (a : α),(x :: l).set 0 a = a :: l) /\ (∀ (α : Type) (x : α) (l : List α) (i : Nat) (a : α),(x :: l).set (i + 1) a = x :: l.set i a):=⟨fun _ _ _=>rfl,fun _ _=>rfl,fun _ l i a=>U1 l i a,fun _ _ _ _=>rfl,fun _ _ _ _ _=>rfl⟩
theorem aI {i : Nat} {rest : List (Nat × Bool)} {o : Oper} {a : Act} {w : World} (ho : ops.toList[i]? = some o) (hw : Region.wanted o (yielded ops a.tmps) = true)
 (h : ∀ K : Act -> World -> Prop,(∀ a' w',(J i = true -> S w') -> aV P ops Q S J rest a' w' -> K a' w') -> o.wp P a w K Q) : aV P ops Q S J ((i,false) :: rest) a w:=by
 show wpOp P ops Q i _ a w
 rw [Array.getElem?_toList] at ho;unfold wpOp;simp only [ho,hw,if_true];exact .inl (h _ (fun a' w' h1 h2=>⟨h1,h2⟩))
theorem bG {plan : List (Nat × Bool)} {a : Act} {W : World} (R : World -> Prop) (hR : R W) (h : ∀ W',R W' -> aV P ops Q S J plan a W') : aV P ops Q S J plan a W:=h W hR
end
theorem aG {w : World} {p a : Addr} {u v : Value} (hne : a.block ≠ p.block \/ a.off ≠ p.off) (h : w.cell? a = some v) : (w.setCell p u).cell? a = some v:=by rw [World.cell?_setCell_other w p a u (fun e=>by subst e;rcases hne with h | h<;>exact h rfl)];exact h
section
variable {P : Program} {md : Region.Mode} {ops : Array Oper} {Q : Exit -> Act -> World -> Prop} {S : World -> Prop} {J : Nat -> Bool}
def BF (md : Region.Mode) (ops : Array Oper) (J : Nat -> Bool) (i j : Nat) (p1 p2 : List (Nat × Bool)) : List Nat -> Array Bool -> Bool
 | [],listed=>Region.ready md ops listed == [i,j] && qj md ops J p1 (listed.setIfInBounds i true) && qj md ops J p2 (listed.setIfInBounds j true)
 | x :: pre,listed=>(Region.ready md ops listed).contains x && Region.free md ops listed x && waits md ops J x && BF md ops J i j p1 p2 pre (listed.setIfInBounds x true)
def yI (P : Program) (ops : Array Oper) (Q : Exit -> Act -> World -> Prop) (S : World -> Prop) (J : Nat -> Bool) (i j : Nat) (p1 p2 : List (Nat × Bool)) : List Nat -> Act -> World -> Prop
 | [],a,w=>wpOp P ops Q i (fun a1 w1=>S w1 /\ aV P ops Q S J p1 a1 w1) a w /\ wpOp P ops Q j (fun a1 w1=>S w1 /\ aV P ops Q S J p2 a1 w1) a w
 | x :: pre,a,w=>∃ o v,ops[x]? = some o /\ YieldsIf P ops S o v a /\ yI P ops Q S J i j p1 p2 pre (a.put o.dst v) w
theorem akv (hs : Region.noSelect ops = true) (hQ : ∀ (o : Oper) c a v w,Q (.panic c) (a.put o.dst v) w -> Q (.panic c) a w) (i j : Nat) (p1 p2 : List (Nat × Bool)) (hl : p2.length = p1.length) (pre : List Nat) :
 ∀ (listed : Array Bool) (a : Act) (w : World),Closed md ops listed -> BF md ops J i j p1 p2 pre listed = true -> S w -> yI P ops Q S J i j p1 p2 pre a w -> qD P md ops Q S J (p1.length + 1 + pre.length) listed a w:=by
 induction pre with
 | nil =>
   intro listed a w hc hok _ h;simp only [BF,Bool.and_eq_true,beq_iff_eq] at hok;obtain ⟨⟨h1,h2⟩,h3⟩:=hok;have mi : i ∈ Region.ready md ops listed:=by rw [h1];simp
   have mj : j ∈ Region.ready md ops listed:=by rw [h1];simp
   refine ⟨fun h0=>(by rw [h1] at h0;cases h0),fun k hk=>?_⟩;rw [h1] at hk;simp only [List.mem_cons,List.not_mem_nil,or_false] at hk;rcases hk with rfl | rfl
   . exact wpOp_mono (fun a1 w1 q=>⟨fun _=>q.1,Cj hs hQ p1 _ _ _ (hc.list mi) h2 (fun _=>q.1) q.2⟩) h.1
   . refine wpOp_mono (fun a1 w1 q=>⟨fun _=>q.1,?_⟩) h.2;have:=Cj hs hQ p2 _ _ _ (hc.list mj) h3 (fun _=>q.1) q.2;rw [hl] at this;exact this
 | cons x pre ih =>intro listed a w hc hok hS h;simp only [BF,Bool.and_eq_true] at hok;obtain ⟨⟨⟨h1,h2⟩,h3⟩,h4⟩:=hok;obtain ⟨o,v,ho,hy,h⟩:=h;exact Ci ho (Region.noSelect_spec hs) (fun c a w=>hQ o c a v w) h3 (p1.length + 1 + pre.length) listed a w hc h2 (by simpa using h1) hy hS (ih _ _ _ (hc.list (by simpa using h1)) h4 hS h)
theorem MR {id : Nat} {a : Act} {w : World} (S : World -> Prop) (J : Nat -> Bool) (i j : Nat) (p1 p2 : List (Nat × Bool)) (pre : List Nat) (hm : P.follows .mixedOrders = true) (hs : Region.noSelect ops = true)
 (hl : p1.length + 1 + pre.length = ops.size) (hl2 : p2.length = p1.length) (hok : BF .any ops J i j p1 p2 pre (Array.replicate ops.size false) = true)
 (hQ : ∀ (o : Oper) c a v w,Q (.panic c) (a.put o.dst v) w -> Q (.panic c) a w) (hS : S w.drew) (h : yI P ops Q S J i j p1 p2 pre a w.drew) : (Code.region id ops true).wp P Q a w:=by
 refine wp_region_any hm (Ck ops.size _ _ _ ?_ (S:=S) (J:=J));have:=akv (md:=.any) (S:=S) (J:=J) hs hQ i j p1 p2 hl2 pre (Array.replicate ops.size false) a w.drew (Closed.empty _) hok hS h;rw [hl] at this;exact this
theorem LU {i j x : Nat} {p1 p2 : List (Nat × Bool)} {pre : List Nat} {o : Oper} {v : Value} {a : Act} {w : World} (ho : ops.toList[x]? = some o) (hw : Region.wanted o (yielded ops a.tmps) = true)
 (hy : ∀ w',S w' -> (execOp a.eval o).run P w' = .ok (.value v) w') (h : yI P ops Q S J i j p1 p2 pre (a.put o.dst v) w) : yI P ops Q S J i j p1 p2 (x :: pre) a w:=
 ⟨o,v,by rw [<- Array.getElem?_toList];exact ho,.inl ⟨hw,hy⟩,h⟩
theorem LQ {i j : Nat} {p1 p2 : List (Nat × Bool)} {oi oj : Oper} {a : Act} {w : World} (hoi : ops.toList[i]? = some oi) (jT : ops.toList[j]? = some oj) (pP : Region.wanted oi (yielded ops a.tmps) = true) (tJ : Region.wanted oj (yielded ops a.tmps) = true)
 (h1 : ∀ K : Act -> World -> Prop,(∀ a' w',S w' -> aV P ops Q S J p1 a' w' -> K a' w') -> oi.wp P a w K Q) (h2 : ∀ K : Act -> World -> Prop,(∀ a' w',S w' -> aV P ops Q S J p2 a' w' -> K a' w') -> oj.wp P a w K Q) : yI P ops Q S J i j p1 p2 [] a w:=by
 rw [Array.getElem?_toList] at hoi jT;refine ⟨?_,?_⟩
 . unfold wpOp;simp only [hoi,pP,if_true];exact .inl (h1 _ (fun a' w' q1 q2=>⟨q1,q2⟩))
 . unfold wpOp;simp only [jT,tJ,if_true];exact .inl (h2 _ (fun a' w' q1 q2=>⟨q1,q2⟩))
end
inductive PT where
 | lin (p : List (Nat × Bool))
 | rd (x : Nat) (t : PT)
 | br (i j : Nat) (t1 t2 : PT)
 | tr (i j k : Nat) (t1 t2 t3 : PT)
def PT.size : PT -> Nat
 | .lin p=>p.length
 | .rd _ t=>t.size + 1
 | .br _ _ t1 _=>t1.size + 1
 | .tr _ _ _ t1 _ _=>t1.size + 1
section
variable {P : Program} {md : Region.Mode} {ops : Array Oper} {Q : Exit -> Act -> World -> Prop} {S : World -> Prop} {J : Nat -> Bool}
def oM (md : Region.Mode) (ops : Array Oper) (J : Nat -> Bool) : PT -> Array Bool -> Bool
 | .lin p,listed=>qj md ops J p listed
 | .rd x t,listed=>(Region.ready md ops listed).contains x && Region.free md ops listed x && waits md ops J x && oM md ops J t (listed.setIfInBounds x true)
 | .br i j t1 t2,listed=>Region.ready md ops listed == [i,j] && t1.size == t2.size && J i && J j && oM md ops J t1 (listed.setIfInBounds i true) && oM md ops J t2 (listed.setIfInBounds j true)
 | .tr i j k t1 t2 t3,listed=>Region.ready md ops listed == [i,j,k] && t1.size == t2.size && t1.size == t3.size && oM md ops J t1 (listed.setIfInBounds i true) && oM md ops J t2 (listed.setIfInBounds j true) && oM md ops J t3 (listed.setIfInBounds k true)
def kj (P : Program) (ops : Array Oper) (Q : Exit -> Act -> World -> Prop) (S : World -> Prop) (J : Nat -> Bool) : PT -> Act -> World -> Prop
 | .lin p,a,w=>aV P ops Q S J p a w
 | .rd x t,a,w=>∃ o v,ops[x]? = some o /\ YieldsIf P ops S o v a /\ kj P ops Q S J t (a.put o.dst v) w
 | .br i j t1 t2,a,w=>wpOp P ops Q i (fun a1 w1=>S w1 /\ kj P ops Q S J t1 a1 w1) a w /\ wpOp P ops Q j (fun a1 w1=>S w1 /\ kj P ops Q S J t2 a1 w1) a w
 | .tr i j k t1 t2 t3,a,w=>wpOp P ops Q i (fun a1 w1=>S w1 /\ kj P ops Q S J t1 a1 w1) a w /\ wpOp P ops Q j (fun a1 w1=>S w1 /\ kj P ops Q S J t2 a1 w1) a w /\ wpOp P ops Q k (fun a1 w1=>S w1 /\ kj P ops Q S J t3 a1 w1) a w
theorem akx (hs : Region.noSelect ops = true) (hQ : ∀ (o : Oper) c a v w,Q (.panic c) (a.put o.dst v) w -> Q (.panic c) a w) (t : PT) :
 ∀ (listed : Array Bool) (a : Act) (w : World),Closed md ops listed -> oM md ops J t listed = true -> S w -> kj P ops Q S J t a w -> qD P md ops Q S J t.size listed a w:=by
 induction t with
 | lin p=>intro listed a w hc hok hS h;exact Cj hs hQ p _ _ _ hc hok (fun _=>hS) h
 | br i j t1 t2 ih1 ih2 =>
   intro listed a w hc hok _ h;simp only [oM,Bool.and_eq_true,beq_iff_eq] at hok;obtain ⟨⟨⟨⟨⟨h1,hsz⟩,_⟩,_⟩,h2⟩,h3⟩:=hok;have mi : i ∈ Region.ready md ops listed:=by rw [h1];simp
   have mj : j ∈ Region.ready md ops listed:=by rw [h1];simp
   refine ⟨fun h0=>(by rw [h1] at h0;cases h0),fun k hk=>?_⟩;rw [h1] at hk;simp only [List.mem_cons,List.not_mem_nil,or_false] at hk;rcases hk with rfl | rfl
   . exact wpOp_mono (fun a1 w1 q=>⟨fun _=>q.1,ih1 _ _ _ (hc.list mi) h2 q.1 q.2⟩) h.1
   . refine wpOp_mono (fun a1 w1 q=>⟨fun _=>q.1,?_⟩) h.2;have:=ih2 _ _ _ (hc.list mj) h3 q.1 q.2;rw [<- hsz] at this;exact this
 | tr i j k t1 t2 t3 ih1 ih2 ih3 =>
   intro listed a w hc hok _ h;simp only [oM,Bool.and_eq_true,beq_iff_eq] at hok;obtain ⟨⟨⟨⟨⟨h1,hs2⟩,hs3⟩,h2⟩,h3⟩,h4⟩:=hok;have mi : i ∈ Region.ready md ops listed:=by rw [h1];simp
   have mj : j ∈ Region.ready md ops listed:=by rw [h1];simp
   have mk : k ∈ Region.ready md ops listed:=by rw [h1];simp
   refine ⟨fun h0=>(by rw [h1] at h0;cases h0),fun l hl=>?_⟩;rw [h1] at hl;simp only [List.mem_cons,List.not_mem_nil,or_false] at hl;rcases hl with rfl | rfl | rfl
   . exact wpOp_mono (fun a1 w1 q=>⟨fun _=>q.1,ih1 _ _ _ (hc.list mi) h2 q.1 q.2⟩) h.1
   . refine wpOp_mono (fun a1 w1 q=>⟨fun _=>q.1,?_⟩) h.2.1;have:=ih2 _ _ _ (hc.list mj) h3 q.1 q.2;rw [<- hs2] at this;exact this
   . refine wpOp_mono (fun a1 w1 q=>⟨fun _=>q.1,?_⟩) h.2.2;have:=ih3 _ _ _ (hc.list mk) h4 q.1 q.2;rw [<- hs3] at this;exact this
 | rd x t ih =>intro listed a w hc hok hS h;simp only [oM,Bool.and_eq_true] at hok;obtain ⟨⟨⟨h1,h2⟩,h3⟩,h4⟩:=hok;obtain ⟨o,v,ho,hy,h⟩:=h;exact Ci ho (Region.noSelect_spec hs) (fun c a w=>hQ o c a v w) h3 t.size listed a w hc h2 (by simpa using h1) hy hS (ih _ _ _ (hc.list (by simpa using h1)) h4 hS h)
theorem MS {id : Nat} {a : Act} {w : World} (S : World -> Prop) (J : Nat -> Bool) (t : PT) (hm : P.follows .mixedOrders = true) (hs : Region.noSelect ops = true)
 (hl : t.size = ops.size) (hok : oM .any ops J t (Array.replicate ops.size false) = true)
 (hQ : ∀ (o : Oper) c a v w,Q (.panic c) (a.put o.dst v) w -> Q (.panic c) a w) (hS : S w.drew) (h : kj P ops Q S J t a w.drew) : (Code.region id ops true).wp P Q a w:=by
 refine wp_region_any hm (Ck ops.size _ _ _ ?_ (S:=S) (J:=J));have:=akx (md:=.any) (S:=S) (J:=J) hs hQ t (Array.replicate ops.size false) a w.drew (Closed.empty _) hok hS h;rw [hl] at this;exact this
theorem VJ {x : Nat} {t : PT} {o : Oper} {v : Value} {a : Act} {w : World} (ho : ops.toList[x]? = some o) (hw : Region.wanted o (yielded ops a.tmps) = true)
 (hy : ∀ w',S w' -> (execOp a.eval o).run P w' = .ok (.value v) w') (h : kj P ops Q S J t (a.put o.dst v) w) : kj P ops Q S J (.rd x t) a w:=
 ⟨o,v,by rw [<- Array.getElem?_toList];exact ho,.inl ⟨hw,hy⟩,h⟩
theorem Fq {i j : Nat} {t1 t2 : PT} {oi oj : Oper} {a : Act} {w : World} (hJi : J i = true) (hJj : J j = true) (hoi : ops.toList[i]? = some oi) (jT : ops.toList[j]? = some oj) (pP : Region.wanted oi (yielded ops a.tmps) = true) (tJ : Region.wanted oj (yielded ops a.tmps) = true)
 (h1 : ∀ K : Act -> World -> Prop,(∀ a' w',(J i = true -> S w') -> kj P ops Q S J t1 a' w' -> K a' w') -> oi.wp P a w K Q) (h2 : ∀ K : Act -> World -> Prop,(∀ a' w',(J j = true -> S w') -> kj P ops Q S J t2 a' w' -> K a' w') -> oj.wp P a w K Q) : kj P ops Q S J (.br i j t1 t2) a w:=by
 rw [Array.getElem?_toList] at hoi jT;refine ⟨?_,?_⟩
 . unfold wpOp;simp only [hoi,pP,if_true];exact .inl (h1 _ (fun a' w' q1 q2=>⟨q1 hJi,q2⟩))
 . unfold wpOp;simp only [jT,tJ,if_true];exact .inl (h2 _ (fun a' w' q1 q2=>⟨q1 hJj,q2⟩))
theorem VK {t : PT} {a : Act} {W : World} (R : World -> Prop) (hR : R W) (h : ∀ W',R W' -> kj P ops Q S J t a W') : kj P ops Q S J t a W:=h W hR
theorem wy {p : List (Nat × Bool)} {a : Act} {w : World} (h : aV P ops Q S J p a w) : kj P ops Q S J (.lin p) a w:=h
end
def ib (cs : List (Addr × Value)) (w : World) : Prop:=∀ p ∈ cs,w.cell? p.1 = some p.2
theorem ib.below {cs : List (Addr × Value)} {w w' : World} (h : ib cs w) (hb : Bw w w') : ib cs w':=fun p hp=>cell_later hb (h p hp)
theorem ib.hd {p : Addr × Value} {cs : List (Addr × Value)} {w : World} (h : ib (p :: cs) w) : w.cell? p.1 = some p.2:=h p zm
theorem ib.tl {p : Addr × Value} {cs : List (Addr × Value)} {w : World} (h : ib (p :: cs) w) : ib cs w:=fun q hq=>h q (by simp [hq])
theorem ib.alloc {cs : List (Addr × Value)} {w : World} (h : ib cs w) (o : Obj) : ib cs (w.alloc o):=h.below zl
theorem ib.drew {cs : List (Addr × Value)} {w : World} (h : ib cs w) : ib cs w.drew:=h
theorem aX {P : Program} {ops : Array Oper} {Q : Exit -> Act -> World -> Prop} {S : World -> Prop} {J : Nat -> Bool} {i : Nat} {rest : List (Nat × Bool)} {o : Oper} {a : Act} {w : World} (ho : ops.toList[i]? = some o) (hw : Region.wanted o (yielded ops a.tmps) = false)
 (h : aV P ops Q S J rest (a.put o.dst undef) w) : aV P ops Q S J ((i,true) :: rest) a w:=
 ⟨o,undef,by rw [<- Array.getElem?_toList];exact ho,.inr ⟨hw,rfl⟩,h⟩
theorem LR {P : Program} {ops : Array Oper} {Q : Exit -> Act -> World -> Prop} {S : World -> Prop} {J : Nat -> Bool} {i : Nat} {rest : List (Nat × Bool)} {o : Oper} {a : Act} {w : World} (ho : ops.toList[i]? = some o) (hw : Region.wanted o (yielded ops a.tmps) = false)
 (hS : J i = true -> S w) (h : aV P ops Q S J rest (a.put o.dst undef) w) : aV P ops Q S J ((i,false) :: rest) a w:=by
 show wpOp P ops Q i _ a w
 rw [Array.getElem?_toList] at ho;unfold wpOp;simp only [ho,hw];exact ⟨hS,h⟩
def ic (A w : World) : Prop:=Bw A w
theorem ic.below {A w w' : World} (h : ic A w) (hb : Bw w w') : ic A w':=aJ h hb
theorem ic.alloc {A w : World} (h : ic A w) (o : Obj) : ic A (w.alloc o):=h.below zl
theorem ic.drew {A w : World} (h : ic A w) : ic A w.drew:=Below.drew h
theorem IP {a b : Nat} (h : b < a) : cC a b = 1:=by unfold cC;rw [if_neg zo,if_pos h]
theorem IQ {a b : Nat} (h : a <= b) : cC a b <= 0:=by unfold cC;split;decide;rw [if_neg zo];decide
theorem aaH (n : Nat) : WW ^ (n + 1) = WW ^ n * WW:=Nat.pow_succ _ _
theorem vY {By q n : Nat} (hB : By < WW ^ n) (hq : q < WW) : By * q < WW ^ (n + 1):=by
 rw [aaH];rcases Nat.eq_zero_or_pos q with h | h
 . subst h;rw [Nat.mul_zero];exact Nat.mul_pos (dv n) ij
 . exact Nat.mul_lt_mul'' hB hq
theorem Uy (a : Option Addr) (L fy b2 o2 n cap2 By pb po qi P q : Nat) (w : World) (hn : n <= 1099511627774) (vp : n <= cap2) (hpc : n + 1 <= qi) (hy : di w b2 o2 n By) (hB : By < WW ^ n) (QG : 0 < By)
 (hp : di w pb po (n + 1) P) (hP : P < WW ^ (n + 1)) (hq : P / By < q) (hqW : q < WW) :
 Calls Tryz.prog 189 #[.agg #[.slice a L fy,.slice (some ⟨b2,o2,none⟩) n cap2],.slice (some ⟨pb,po,none⟩) (n + 1) qi,.int .u64 (q : Int)] w fun e w'=>∃ mb,
  e = .returned (.tuple #[.int .u64 ((P / By : Nat) : Int),.slice (some ⟨mb,0,none⟩) (n + 1) (n + 1)]) /\ (ai w' mb 142 (bu (n + 1) (dg (By * (P / By)))) /\ w.heap.size <= mb) /\ Bw w w':=by
 have Hy:=ah hy;have HB:=ah hB;have Nh:=ah QG;have Hp:=ah hp;have HP:=ah hP;obtain ⟨D,hD⟩ : ∃ D,P / By = D:=⟨_,rfl⟩;have HD:=ah hD;rw [hD] at hq ⊢;rw [ig] at hqW;have UM : pb < w.heap.size:=World.block_lt_of_cell? w _ (hp 0 zo);have iI : 0 < n -> b2 < w.heap.size:=fun h=>World.block_lt_of_cell? w _ (hy 0 h);have hn0 : 0 < n:=by
  rcases Nat.eq_zero_or_pos n with h | h
  . subst h;simp at hB;omega
  . exact h
 have Lpb:=ah UM;have Lb2:=ah (iI hn0);clear hy hB QG hp hP hD UM iI;have hmk:=vW ((n : Int) + 1) (n + 1) zo zo;obtain ⟨W,aL⟩ : ∃ W,(w.alloc (.cells #[.slice a L fy,.slice (some ⟨b2,o2,none⟩) n cap2] 198)) = W:=⟨_,rfl⟩;have Hb : Hid (Bw w W):=by rw [<- aL];exact zl
 have Hx : Hid (ai W (w.heap.size) 198 [.slice a L fy,.slice (some ⟨b2,o2,none⟩) n cap2]):=by rw [<- aL];exact ai.newAt _ _ _ zm
 obtain ⟨x0,x1⟩:=Hx.out.c2;go_enter Tryz.func189,Tryz.ntmps189;go_wp2_with fail;go_loopw [2,8] (fun qv _ wr=>∃ k : Nat,D < k /\ k <= q /\ qv = .int .u64 (k : Int) /\ ai wr w.heap.size 198 [.slice a L fy,.slice (some ⟨b2,o2,none⟩) n cap2] /\ Bw w wr) (fun qv _ _=>(intOf qv).toNat);case atStart=>exact ⟨q,hq,Nat.le_refl _,rfl,Hx.out,Hb.out⟩
 case round=>
  clear x0 x1 Hx Hb;obtain ⟨k,hk1,hk2,rfl,px,VG⟩:=hrel;have Hx:=ah px;have Hb:=ah VG;clear px VG;obtain ⟨m,rfl⟩ : ∃ m,k = m + 1:=⟨k - 1,by omega⟩;have hm : IntKind.u64.wrap (((m + 1 : Nat) : Int) - 1) = (m : Int):=by rw [IntKind.wrap_u64];omega
  obtain ⟨x0,x1⟩:=Hx.out.c2;have Td : m < WW:=by rw [ig];omega
  have Ot:=ah Td;clear Td;have lx:=Hx.out.lt;have sz:=Hb.out.size;obtain ⟨W2,hW2⟩ : ∃ W2,wr.alloc (.cells (bu (n + 1) fun _=>0).toArray 142) = W2:=⟨_,rfl⟩;have hb2 : Bw wr W2:=by rw [<- hW2];exact zl
  have eN : Hid (ai W2 wr.heap.size 142 (bu (n + 1) fun _=>0)):=by rw [<- hW2];exact ai.new _ _ _
  replace Hx:=ah (Hx.out.below hb2);have fR:=ah (aJ Hb.out hb2);have Wi : W2.heap.size = wr.heap.size + 1:=by rw [<- hW2];simp
  have ak8:=ah Wi;clear Wi hb2;obtain ⟨y0,y1⟩:=Hx.out.c2;go_wp2_with fail;refine (ET wr.heap.size (n + 1) 0 (n + 1) (n + 1) (fun _=>0) 0 b2 o2 n cap2 By m W2 zo zo eN.out zo (fun j _=>by unfold dg;rw [Nat.zero_div];rfl) (Hy.out.below fR.out) HB.out (by have:=Lb2.out;omega) Ot.out).mono ?_;rintro e w3 ⟨rfl,qB,qg⟩
  have eB : bu (n + 1) (ft (fun _=>0) 0 (n + 1) (dg (0 + By * m))) = bu (n + 1) (dg (By * m)):=iL (fun j hj=>by
   have:=BB (fun _=>0) 0 (n + 1) (dg (0 + By * m)) j hj
   simpa only [Nat.zero_add] using this)
  rw [eB] at qB;have iO:=ah qB;have Ob:=ah qg;have od:=vY HB.out Ot.out;have tu:=gK od;have yM:=ah od;have sH:=ah (Hx.out.grown qg (fun h=>by have:=Option.some.inj h;omega));have mF : Hid (di w3 pb po (n + 1) P):=(Hp.out.below fR.out).grown qg (fun h=>by have:=Option.some.inj h;have:=Lpb.out;omega);have dD:=ah (fR.out.grown qg (by have:=fR.out.size;omega) (fun j e=>by have:=Option.some.inj e;omega));clear qB qg eB od x0 x1 y0 y1;obtain ⟨x0,x1⟩:=sH.out.c2;go_wp2_with fail;refine (jp wr.heap.size 0 (n + 1) (n + 1) (By * m) w3 zo (Nat.le_refl _) (iO.out.lim _ (Nat.le_refl _)) yM.out).mono ?_;rintro e w4 ⟨rfl,rfl⟩;go_wp2_with fail;refine (vT wr.heap.size 0 (ln (By * m)) (n + 1) (By * m) pb po (n + 1) qi P w3 zo tu (iO.out.lim _ tu) (dV _) zo hpc mF.out HP.out).mono ?_;rintro e w5 ⟨rfl,dc⟩;have eX:=ah dc;have wX:=ah (sH.out.below dc);have ko:=ah (iO.out.below dc);clear dc x0 x1;obtain ⟨x0,x1⟩:=wX.out.c2;have kE:=Nat.div_add_mod P By;have vA:=Nat.mod_lt P Nh.out;rw [HD.out] at kE;by_cases hle : By * m <= P
  . have hmD : D = m:=by
     have h1 : m <= D:=by rw [<- HD.out];exact (Nat.le_div_iff_mul_le Nh.out).2 (by rw [Nat.mul_comm];exact hle)
     omega
    subst hmD;have jR:=IQ hle;clear kE vA hle;generalize cC (By * D) P = c at *;go_wp2;refine bodyPost_ret (v:=.tuple #[.int .u64 (D : Int),.slice (some ⟨wr.heap.size,0,none⟩) (n + 1) (n + 1)]) (by simp [results,Tryz.results189,go_sem]) rfl ⟨wr.heap.size,rfl,⟨ko.out,sz⟩,aJ dD.out eX.out⟩
  . have hlt : D < m:=by
     rcases Nat.lt_or_ge D m with h | h
     . exact h
     . exact absurd (Nat.le_trans (Nat.mul_le_mul_left By h) zo) hle
    have jR:=IP (a:=By * m) (b:=P) zo;clear kE vA;rw [jR];go_wp2;go_roundw;case rel=>exact ⟨m,hlt,by omega,by go_num,wX.out,aJ dD.out eX.out⟩
    case measure=>simp [intOf]
theorem _root_.Go.RowKit.Below.thenGrown {w a c : World} {b : Nat} (h : Bw w a) (k : a.grownBy c (some b)) : w.grownBy c (some b):=
 ⟨k.os.trans h.os,k.tape.trans h.tape,k.output.trans h.output,Nat.le_trans h.size k.size,fun i hi hn=>(k.block i (Nat.lt_of_lt_of_le hi h.size) hn).trans (h.block i hi)⟩
def Wn (w : World) (b o : Nat) (cs : List Value) : Prop:=∀ j (h : j < cs.length),w.cell? ⟨b,o + j,none⟩ = some cs[j]
theorem Wn.cell {w : World} {b o : Nat} {cs : List Value} (h : Wn w b o cs) (j : Nat) (hj : j < cs.length) : w.cell? ⟨b,o + j,none⟩ = some cs[j]:=h j hj
theorem Wn.below {w w' : World} {b o : Nat} {cs : List Value} (h : Wn w b o cs) (hb : Bw w w') : Wn w' b o cs:=fun j hj=>cell_later hb (h j hj)
theorem ac8 (h lo y : Nat) (w : World) (hy1 : 9223372036854775808 <= y) (hy : y < WW) (hh : h < y) (hl : lo < WW) :
 Calls Tryz.prog 188 #[.int .u64 (h : Int),.int .u64 (lo : Int),.int .u64 (y : Int)] w fun e w'=>(∃ r,e = .returned (.tuple #[.int .u64 (((h * WW + lo) / y : Nat) : Int),.int .u64 r])) /\ Bw w w':=by
 rcases Nat.eq_zero_or_pos h with h0 | h0
 . subst h0;refine (ada lo y w zo hy hl).mono ?_;rintro e w' ⟨r,rfl,hb⟩;refine ⟨⟨r,?_⟩,hb⟩;rw [Nat.zero_mul,Nat.zero_add]
 . refine (ac9 h lo y w hy1 hy hh hl h0).mono ?_;rintro e w' ⟨r,he,hb⟩;exact ⟨⟨r,he⟩,hb⟩
theorem take_at {R By at' n : Nat} (hR : R < WW ^ (at' + n + 1)) (j : Nat) :
 ft (dg R) at' (n + 1) (dg (R / WW ^ at' - By * (R / WW ^ at' / By))) j = dg (R - By * (R / WW ^ at' / By) * WW ^ at') j:=by
 obtain ⟨P,hP⟩ : ∃ P,R / WW ^ at' = P:=⟨_,rfl⟩;obtain ⟨lo,hlo⟩ : ∃ lo,R % WW ^ at' = lo:=⟨_,rfl⟩;obtain ⟨S,hS⟩ : ∃ S,By * (P / By) = S:=⟨_,rfl⟩;have hl : lo < WW ^ at':=by rw [<- hlo];exact Nat.mod_lt _ (dv _)
 have e:=Nat.div_add_mod R (WW ^ at');rw [hP,hlo] at e;have hSP : S <= P:=by rw [<- hS];exact Nat.mul_div_le _ _
 have hPn : P < WW ^ (n + 1):=by rw [<- hP];refine Nat.div_lt_of_lt_mul ?_;rw [<- Nat.pow_add];exact hR
 rw [hP,hS];have e1 : R = P * WW ^ at' + lo:=by rw [<- e,Nat.mul_comm]
 have e2 : R - S * WW ^ at' = (P - S) * WW ^ at' + lo:=by have : S * WW ^ at' <= P * WW ^ at':=Nat.mul_le_mul_right _ hSP;rw [e1,Nat.sub_mul];omega
 rw [e2,Qc _ _ _ _ hl];unfold ft;by_cases h1 : j < at'
 . rw [if_neg zo,if_pos h1,e1,Qc _ _ _ _ hl,if_pos h1]
 . rw [if_neg h1];by_cases h2 : j < at' + (n + 1)
   . rw [if_pos zo]
   . rw [if_neg zo,pC (k:=at' + n + 1) hR zo,pC (k:=n + 1) (Nat.lt_of_le_of_lt (Nat.sub_le _ _) hPn) zo]
theorem ac7 (b L fy R b2 o2 n cap2 By at' : Nat) (w : World) (hL : L <= 1099511627775) (hLc : L <= fy) (hn : 0 < n) (vp : n <= cap2) (hB : ai w b 142 (bu L (dg R))) (hy : di w b2 o2 n By) (DW : By < WW ^ n) (htop : 9223372036854775808 <= dg By (n - 1))
 (hR : R < By * WW ^ (at' + 1)) (hat : at' + n + 1 <= L) (hne : b2 ≠ b) :
 Calls Tryz.prog 178 #[.agg #[.slice (some ⟨b,0,none⟩) L fy,.slice (some ⟨b2,o2,none⟩) n cap2],.int .i64 (at' : Int)] w fun e w'=>
  e = .returned (.int .u64 ((R / WW ^ at' / By : Nat) : Int)) /\ ai w' b 142 (bu L (dg (R - By * (R / WW ^ at' / By) * WW ^ at'))) /\ w.grownBy w' (some b):=by
 have QH : 0 < By:=by
  rcases Nat.eq_zero_or_pos By with h | h
  . subst h;unfold dg at htop;simp at htop
  . exact h
 have JJ : R < WW ^ (at' + n + 1):=by refine Nat.lt_of_lt_of_le hR ?_;rw [show WW ^ (at' + n + 1) = WW ^ n * WW ^ (at' + 1) by rw [<- Nat.pow_add];congr 1;omega];exact Nat.mul_le_mul_right _ (Nat.le_of_lt DW)
 have htake:=fun j=>take_at (R:=R) (By:=By) (at':=at') (n:=n) JJ j;obtain ⟨P,hP⟩ : ∃ P,R / WW ^ at' = P:=⟨_,rfl⟩;have Re : P < By * WW:=by rw [<- hP];refine Nat.div_lt_of_lt_mul ?_;rw [<- Nat.mul_assoc,Nat.mul_comm _ By,Nat.mul_assoc,Nat.mul_comm (WW ^ at'),<- Nat.pow_succ'];exact hR
 have Rf : P < WW ^ (n + 1):=by rw [<- hP];refine Nat.div_lt_of_lt_mul ?_;rw [<- Nat.pow_add];exact JJ
 have Ap : ∀ j,dg P j = dg R (at' + j):=fun j=>by rw [<- hP];exact Dt R at' j
 obtain ⟨G,hG⟩ : ∃ G,(if dg P n < dg By (n - 1) then (dg P n * WW + dg P (n - 1)) / dg By (n - 1) else WW - 1) = G:=⟨_,rfl⟩;have hge:=ad3 (P:=P) (by':=By) hn Re zo DW;rw [hG] at hge;have JZ:=ik By (n - 1);have JN:=ik P (n - 1);obtain ⟨top,KR⟩ : ∃ top,dg P n = top:=⟨_,rfl⟩;obtain ⟨T0,hT0⟩ : ∃ T0,dg P (n - 1) = T0:=⟨_,rfl⟩;obtain ⟨b1,hb1⟩ : ∃ b1,dg By (n - 1) = b1:=⟨_,rfl⟩;rw [KR,hT0,hb1] at hG;rw [hb1] at htop JZ;rw [hT0] at JN;have hlb:=hB.lt;have aeZ : b2 < w.heap.size:=World.block_lt_of_cell? w _ (hy 0 hn);have IU : w.cell? ⟨b,at' + n,none⟩ = some (.int .u64 (top : Int)):=by rw [hB.cell,fC _ _ _ zo,<- KR,Ap]
 have IJ : w.cell? ⟨b,at' + n - 1,none⟩ = some (.int .u64 (T0 : Int)):=by rw [hB.cell,fC _ _ _ zo,<- hT0,Ap];congr 4;omega
 have IK : w.cell? ⟨b2,o2 + (n - 1),none⟩ = some (.int .u64 (b1 : Int)):=by rw [<- hb1];exact hy _ zo
 have Ba : di w b at' (n + 1) P:=fun j hj=>by rw [hB.cell,fC _ _ _ zo,Ap]
 have i1:=Bo L fy (at' + n) ((at' : Int) + (n : Int)) (rfl : (some ⟨b,0,none⟩ : Option Addr) = _) zo zo;have i2:=Bo L fy (at' + n - 1) ((at' : Int) + (n : Int) - 1) (rfl : (some ⟨b,0,none⟩ : Option Addr) = _) zo zo;have i3:=Bo n cap2 (n - 1) ((n : Int) - 1) (rfl : (some ⟨b2,o2,none⟩ : Option Addr) = _) zo zo;rw [Nat.mul_one,Nat.zero_add] at i1 i2;rw [Nat.mul_one] at i3;have hsl : at' + n + 1 - at' = n + 1:=by omega
 have hmk:=vW ((n : Int) + 1) (n + 1) zo zo;have NL:=ah hB;have Hy:=ah hy;have oX:=ah DW;have Cq:=ah QH;have rY:=ah Rf;have HP:=ah hP;have Oe:=ah hge;have Np:=ah hG;have CR:=ah htake;have CP:=ah Ba;have Hne:=ah hne;have Ct:=ah Ap;have zN:=ah htop;have XZ:=ah JZ;have NC:=ah JN;obtain ⟨D,hD⟩ : ∃ D,P / By = D:=⟨_,rfl⟩;have HD:=ah hD;rw [hP,hD];rw [hD] at hge;have Gm : Hid (Wn w b (at' + n) [.int .u64 (top : Int)]):=fun j hj=>by
  obtain rfl : j = 0:=by simp at hj;omega
  exact IU
 have uA : Hid (Wn w b (at' + n - 1) [.int .u64 (T0 : Int)]):=fun j hj=>by
  obtain rfl : j = 0:=by simp at hj;omega
  exact IJ
 have uB : Hid (Wn w b2 (o2 + (n - 1)) [.int .u64 (b1 : Int)]):=fun j hj=>by
  obtain rfl : j = 0:=by simp at hj;omega
  exact IK
 clear hB hy DW QH Rf hP hge hG htake Ba hne htop JZ JN hD Re Ap JJ hR KR hT0 hb1 IU IJ IK;obtain ⟨W,aL⟩ : ∃ W,(w.alloc (.cells #[.slice (some ⟨b,0,none⟩) L fy,.slice (some ⟨b2,o2,none⟩) n cap2] 198)) = W:=⟨_,rfl⟩;have Hb : Hid (Bw w W):=by rw [<- aL];exact zl
 have Hx : Hid (ai W (w.heap.size) 198 [.slice (some ⟨b,0,none⟩) L fy,.slice (some ⟨b2,o2,none⟩) n cap2]):=by rw [<- aL];exact ai.newAt _ _ _ zm
 obtain ⟨x0,x1⟩:=Hx.out.c2;replace Gm:=ah (Gm.out.below Hb.out);replace uA:=ah (uA.out.below Hb.out);replace uB:=ah (uB.out.below Hb.out);have IU : W.cell? ⟨b,at' + n,none⟩ = some (.int .u64 (top : Int)):=Gm.out.cell 0 zm;have IJ : W.cell? ⟨b,at' + n - 1,none⟩ = some (.int .u64 (T0 : Int)):=uA.out.cell 0 zm;have IK : W.cell? ⟨b2,o2 + (n - 1),none⟩ = some (.int .u64 (b1 : Int)):=uB.out.cell 0 zm;go_enter Tryz.func178,Tryz.ntmps178;by_cases hlt : top < b1
 . have bi : (top : Int) < (b1 : Int):=by omega
   have xH:=fun W=>ac8 top T0 b1 W zN.out XZ.out hlt NC.out;have sP:=Np.out;rw [if_pos hlt] at sP;rw [sP] at xH;have lJ : Hid (G < WW):=by
    show _ < _
    rw [<- sP];refine Nat.div_lt_of_lt_mul ?_;have h1:=NC.out;have h2 : (top + 1) * WW <= b1 * WW:=Nat.mul_le_mul_right _ hlt;rw [Nat.add_mul,Nat.one_mul] at h2;omega
   have wM:=ah xH;clear xH sP;go_wp2_with fail;have k1 : IntKind.i64.wrap ((at' : Int) + (n : Int)) = (at' : Int) + (n : Int):=by rw [IntKind.wrap_i64];omega
   have k2 : IntKind.i64.wrap ((at' : Int) + (n : Int) - 1) = (at' : Int) + (n : Int) - 1:=by rw [IntKind.wrap_i64];omega
   have k3 : IntKind.i64.wrap ((n : Int) - 1) = (n : Int) - 1:=by rw [IntKind.wrap_i64];omega
   obtain ⟨x0,x1⟩:=Hx.out.c2;have Dm : W.cell? ⟨b,at' + n - 1,none⟩ = some (.int .u64 (T0 : Int)):=uA.out.cell 0 zm;have Dn : W.cell? ⟨b2,o2 + (n - 1),none⟩ = some (.int .u64 (b1 : Int)):=uB.out.cell 0 zm;refine bE (fun w'=>w'.cell? ⟨w.heap.size,0,none⟩ = some (.slice (some ⟨b,0,none⟩) L fy) /\ w'.cell? ⟨w.heap.size,1,none⟩ = some (.slice (some ⟨b2,o2,none⟩) n cap2) /\ w'.cell? ⟨b,at' + n - 1,none⟩ = some (.int .u64 (T0 : Int)) /\ w'.cell? ⟨b2,o2 + (n - 1),none⟩ = some (.int .u64 (b1 : Int))) (fun i=>Nat.blt i 100000) [(0,true),(1,true),(2,true),(3,true),(4,true),(5,true),(6,true),(7,true),(8,true),(9,true),(10,true),(11,true),(12,true),(13,true),(14,true),(15,false),(16,true),(17,true),(18,true),(19,true)] zk zk rfl zk zc ⟨x0,x1,Dm,Dn⟩ ?_;iterate 15 (refine pT rfl rfl ?_ (by intro w' ⟨q0,q1,q2,q3⟩;go_simp;try with_reducible rfl);try simp only [UU])
   refine aI rfl rfl (fun K hK=>?_);go_simp;with_reducible refine (wM.out _).mono ?_
   rintro e w1 ⟨⟨r,rfl⟩,hq⟩;have ae : Bw W w1:=by first | exact hq | exact aN hq
   clear x0 x1 Dm Dn;replace Hx:=kB Hx ae;replace uA:=ah (uA.out.below ae);replace uB:=ah (uB.out.below ae);obtain ⟨x0,x1⟩:=Hx.out.c2;have Dm : w1.cell? ⟨b,at' + n - 1,none⟩ = some (.int .u64 (T0 : Int)):=uA.out.cell 0 zm;have Dn : w1.cell? ⟨b2,o2 + (n - 1),none⟩ = some (.int .u64 (b1 : Int)):=uB.out.cell 0 zm;replace Hb:=az Hb ae;clear ae;refine hK _ _ (fun _=>⟨x0,x1,Dm,Dn⟩) ?_;clear hK K;try simp only [UU]
   iterate 4 (refine pT rfl rfl ?_;try simp only [UU])
   simp only [aV];have MC:=Hb.out.size;have lx:=Hx.out.lt;obtain ⟨W2,hW2⟩ : ∃ W2,w1.alloc (.cells (bu (n + 1) fun _=>0).toArray 142) = W2:=⟨_,rfl⟩;have hb2 : Bw w1 W2:=by rw [<- hW2];exact zl
   have eN : Hid (ai W2 w1.heap.size 142 (bu (n + 1) fun _=>0)):=by rw [<- hW2];exact ai.new _ _ _
   have fR:=ah (aJ Hb.out hb2);have nP:=ah (Hx.out.below hb2);clear hb2;obtain ⟨y0,y1⟩:=nP.out.c2;go_wp2_with fail;refine (ET w1.heap.size (n + 1) 0 (n + 1) (n + 1) (fun _=>0) 0 b2 o2 n cap2 By G W2 zo zo eN.out zo (fun j _=>by unfold dg;rw [Nat.zero_div];rfl) (Hy.out.below fR.out) oX.out zo lJ.out).mono ?_;rintro e w3 ⟨rfl,qB,qg⟩
   have eB : bu (n + 1) (ft (fun _=>0) 0 (n + 1) (dg (0 + By * G))) = bu (n + 1) (dg (By * G)):=iL (fun j hj=>by
    have:=BB (fun _=>0) 0 (n + 1) (dg (0 + By * G)) j hj
    simpa only [Nat.zero_add] using this)
   rw [eB] at qB;have iO:=ah qB;have od:=vY oX.out lJ.out;have tu:=gK od;have yM:=ah od;have sH:=ah (nP.out.grown qg (fun h=>by have:=Option.some.inj h;omega));have mF : Hid (di w3 b at' (n + 1) P):=(CP.out.below fR.out).grown qg (fun h=>by have:=Option.some.inj h;omega);have Gh:=ah ((NL.out.below fR.out).grown qg (fun h=>by have:=Option.some.inj h;omega));have dD:=ah (fR.out.grown qg (by have:=fR.out.size;omega) (fun j e=>by have:=Option.some.inj e;omega));clear qB qg eB od x0 x1 y0 y1;obtain ⟨x0,x1⟩:=sH.out.c2;go_wp2_with fail;refine (jp w1.heap.size 0 (n + 1) (n + 1) (By * G) w3 zo (Nat.le_refl _) (iO.out.lim _ (Nat.le_refl _)) yM.out).mono ?_;rintro e w4 ⟨rfl,rfl⟩;go_wp2_with fail;refine (vT w1.heap.size 0 (ln (By * G)) (n + 1) (By * G) b at' (n + 1) (fy - at') P w3 zo tu (iO.out.lim _ tu) (dV _) zo zo mF.out rY.out).mono ?_;rintro e w5 ⟨rfl,dc⟩;have eX:=ah dc;have wX:=ah (sH.out.below dc);have qG:=ah (iO.out.below dc);have kq:=ah (Gh.out.below dc);have lI:=ah (aJ dD.out eX.out);clear dc x0 x1;obtain ⟨x0,x1⟩:=wX.out.c2;by_cases hle : By * G <= P
   . have Ak : D = G:=by
      have h1 : G <= D:=by rw [<- HD.out];exact (Nat.le_div_iff_mul_le Cq.out).2 (by rw [Nat.mul_comm];exact hle)
      have h2:=Oe.out;rw [HD.out] at h2;omega
     have uo:=ah Ak;have jR:=IQ hle;have GG:=ah hle;clear Ak hle;obtain ⟨c,hc⟩ : ∃ c,cC (By * G) P = c:=⟨_,rfl⟩;rw [hc] at jR;rw [hc];clear hc;have aeH : ¬ 0 < c:=by omega
     go_wp2_with fail;refine (Bq b L at' (n + 1) (fy - at') (dg R) P w1.heap.size 0 (n + 1) (n + 1) (By * G) w5 zo zo kq.out zo (fun j _=>(Ct.out j).symm) (qG.out.lim _ (Nat.le_refl _)) (vY oX.out (by first | exact lJ.out | exact yJ.out)) ZS GG.out rY.out).mono ?_;rintro e w6 ⟨rfl,kN,oN⟩
     have nU : bu L (ft (dg R) at' (n + 1) (dg (P - By * G))) = bu L (dg (R - By * G * WW ^ at')):=iL (fun j _=>by
      have h:=CR.out j;rw [HP.out,HD.out,uo.out] at h
      exact h)
     rw [nU] at kN;have kS:=ah kN;have qP:=ah oN;clear kN oN nU;go_wp2;refine bodyPost_ret (v:=.int .u64 (D : Int)) (by have hh:=uo.out;simp [results,Tryz.results178,go_sem,hh]) rfl ⟨rfl,by rw [uo.out];exact kS.out,Below.thenGrown lI.out qP.out⟩
   . have jR:=IP (a:=By * G) (b:=P) zo;have hDl : P / By < G:=by
      rcases Nat.lt_or_ge (P / By) G with h | h
      . exact h
      . exact absurd (Nat.le_trans (Nat.mul_le_mul_left By h) (Nat.mul_div_le _ _)) hle
     have yK:=ah hDl;have yJ : Hid (D < WW):=by have h1:=lJ.out;have h2:=yK.out;rw [HD.out] at h2;exact Nat.lt_trans h2 h1
     clear hDl hle;rw [jR];clear jR;go_wp2_with fail;refine (Uy (some ⟨b,0,none⟩) L fy b2 o2 n cap2 By b at' (fy - at') P G w5 zo vp zo (Hy.out.below lI.out) oX.out Cq.out (mF.out.below eX.out) rY.out yK.out lJ.out).mono ?_;rintro e w7 ⟨mb,rfl,⟨qM,lmb⟩,qb⟩;have FB:=lI.out.size;replace qG:=ah qM;replace kq:=ah (kq.out.below qb);replace lI:=ah (aJ lI.out qb);rw [HD.out] at qG;rw [HD.out];have MB:=kq.out.lt;clear qM qb x0 x1;go_wp2_with fail;refine (Bq b L at' (n + 1) (fy - at') (dg R) P mb 0 (n + 1) (n + 1) (By * D) w7 zo zo kq.out zo (fun j _=>(Ct.out j).symm) (qG.out.lim _ (Nat.le_refl _)) (vY oX.out (by first | exact lJ.out | exact yJ.out)) ZS (by rw [<- HD.out];exact Nat.mul_div_le _ _) rY.out).mono ?_;rintro e w6 ⟨rfl,kN,oN⟩
     have nU : bu L (ft (dg R) at' (n + 1) (dg (P - By * D))) = bu L (dg (R - By * D * WW ^ at')):=iL (fun j _=>by
      have h:=CR.out j;rw [HP.out,HD.out] at h
      exact h)
     rw [nU] at kN;have kS:=ah kN;have qP:=ah oN;clear kN oN nU;go_wp2;refine bodyPost_ret (results_tmp rfl _ _ _) rfl ⟨rfl,kS.out,Below.thenGrown lI.out qP.out⟩
 . have bi : ¬ (top : Int) < (b1 : Int):=by omega
   have sP:=Np.out;rw [if_neg hlt,ig] at sP;have aeb : 18446744073709551615 = G:=sP;subst aeb;have lJ : Hid (18446744073709551615 < WW):=by show _ < _;rw [ig];decide
   clear sP;have MC:=Hb.out.size;have lx:=Hx.out.lt;obtain ⟨W2,hW2⟩ : ∃ W2,W.alloc (.cells (bu (n + 1) fun _=>0).toArray 142) = W2:=⟨_,rfl⟩;have hb2 : Bw W W2:=by rw [<- hW2];exact zl
   have eN : Hid (ai W2 W.heap.size 142 (bu (n + 1) fun _=>0)):=by rw [<- hW2];exact ai.new _ _ _
   have fR:=ah (aJ Hb.out hb2);have nP:=ah (Hx.out.below hb2);clear hb2;obtain ⟨y0,y1⟩:=nP.out.c2;go_wp2_with fail;refine (ET W.heap.size (n + 1) 0 (n + 1) (n + 1) (fun _=>0) 0 b2 o2 n cap2 By 18446744073709551615 W2 zo zo eN.out zo (fun j _=>by unfold dg;rw [Nat.zero_div];rfl) (Hy.out.below fR.out) oX.out zo lJ.out).mono ?_;rintro e w3 ⟨rfl,qB,qg⟩
   have eB : bu (n + 1) (ft (fun _=>0) 0 (n + 1) (dg (0 + By * 18446744073709551615))) = bu (n + 1) (dg (By * 18446744073709551615)):=iL (fun j hj=>by
    have:=BB (fun _=>0) 0 (n + 1) (dg (0 + By * 18446744073709551615)) j hj
    simpa only [Nat.zero_add] using this)
   rw [eB] at qB;have iO:=ah qB;have od:=vY oX.out lJ.out;have tu:=gK od;have yM:=ah od;have sH:=ah (nP.out.grown qg (fun h=>by have:=Option.some.inj h;omega));have mF : Hid (di w3 b at' (n + 1) P):=(CP.out.below fR.out).grown qg (fun h=>by have:=Option.some.inj h;omega);have Gh:=ah ((NL.out.below fR.out).grown qg (fun h=>by have:=Option.some.inj h;omega));have dD:=ah (fR.out.grown qg (by have:=fR.out.size;omega) (fun j e=>by have:=Option.some.inj e;omega));clear qB qg eB od x0 x1 y0 y1;obtain ⟨x0,x1⟩:=sH.out.c2;go_wp2_with fail;refine (jp W.heap.size 0 (n + 1) (n + 1) (By * 18446744073709551615) w3 zo (Nat.le_refl _) (iO.out.lim _ (Nat.le_refl _)) yM.out).mono ?_;rintro e w4 ⟨rfl,rfl⟩;go_wp2_with fail;refine (vT W.heap.size 0 (ln (By * 18446744073709551615)) (n + 1) (By * 18446744073709551615) b at' (n + 1) (fy - at') P w3 zo tu (iO.out.lim _ tu) (dV _) zo zo mF.out rY.out).mono ?_;rintro e w5 ⟨rfl,dc⟩;have eX:=ah dc;have wX:=ah (sH.out.below dc);have qG:=ah (iO.out.below dc);have kq:=ah (Gh.out.below dc);have lI:=ah (aJ dD.out eX.out);clear dc x0 x1;obtain ⟨x0,x1⟩:=wX.out.c2;by_cases hle : By * 18446744073709551615 <= P
   . have Ak : D = 18446744073709551615:=by
      have h1 : 18446744073709551615 <= D:=by rw [<- HD.out];exact (Nat.le_div_iff_mul_le Cq.out).2 (by rw [Nat.mul_comm];exact hle)
      have h2:=Oe.out;rw [HD.out] at h2;omega
     have uo:=ah Ak;have jR:=IQ hle;have GG:=ah hle;clear Ak hle;obtain ⟨c,hc⟩ : ∃ c,cC (By * 18446744073709551615) P = c:=⟨_,rfl⟩;rw [hc] at jR;rw [hc];clear hc;have aeH : ¬ 0 < c:=by omega
     go_wp2_with fail;refine (Bq b L at' (n + 1) (fy - at') (dg R) P W.heap.size 0 (n + 1) (n + 1) (By * 18446744073709551615) w5 zo zo kq.out zo (fun j _=>(Ct.out j).symm) (qG.out.lim _ (Nat.le_refl _)) (vY oX.out (by first | exact lJ.out | exact yJ.out)) ZS GG.out rY.out).mono ?_;rintro e w6 ⟨rfl,kN,oN⟩
     have nU : bu L (ft (dg R) at' (n + 1) (dg (P - By * 18446744073709551615))) = bu L (dg (R - By * 18446744073709551615 * WW ^ at')):=iL (fun j _=>by
      have h:=CR.out j;rw [HP.out,HD.out,uo.out] at h
      exact h)
     rw [nU] at kN;have kS:=ah kN;have qP:=ah oN;clear kN oN nU;go_wp2;refine bodyPost_ret (v:=.int .u64 (D : Int)) (by have hh:=uo.out;simp [results,Tryz.results178,go_sem,hh]) rfl ⟨rfl,by rw [uo.out];exact kS.out,Below.thenGrown lI.out qP.out⟩
   . have jR:=IP (a:=By * 18446744073709551615) (b:=P) zo;have hDl : P / By < 18446744073709551615:=by
      rcases Nat.lt_or_ge (P / By) 18446744073709551615 with h | h
      . exact h
      . exact absurd (Nat.le_trans (Nat.mul_le_mul_left By h) (Nat.mul_div_le _ _)) hle
     have yK:=ah hDl;have yJ : Hid (D < WW):=by have h1:=lJ.out;have h2:=yK.out;rw [HD.out] at h2;exact Nat.lt_trans h2 h1
     clear hDl hle;rw [jR];clear jR;go_wp2_with fail;refine (Uy (some ⟨b,0,none⟩) L fy b2 o2 n cap2 By b at' (fy - at') P 18446744073709551615 w5 zo vp zo (Hy.out.below lI.out) oX.out Cq.out (mF.out.below eX.out) rY.out yK.out lJ.out).mono ?_;rintro e w7 ⟨mb,rfl,⟨qM,lmb⟩,qb⟩;have FB:=lI.out.size;replace qG:=ah qM;replace kq:=ah (kq.out.below qb);replace lI:=ah (aJ lI.out qb);rw [HD.out] at qG;rw [HD.out];have MB:=kq.out.lt;clear qM qb x0 x1;go_wp2_with fail;refine (Bq b L at' (n + 1) (fy - at') (dg R) P mb 0 (n + 1) (n + 1) (By * D) w7 zo zo kq.out zo (fun j _=>(Ct.out j).symm) (qG.out.lim _ (Nat.le_refl _)) (vY oX.out (by first | exact lJ.out | exact yJ.out)) ZS (by rw [<- HD.out];exact Nat.mul_div_le _ _) rY.out).mono ?_;rintro e w6 ⟨rfl,kN,oN⟩
     have nU : bu L (ft (dg R) at' (n + 1) (dg (P - By * D))) = bu L (dg (R - By * D * WW ^ at')):=iL (fun j _=>by
      have h:=CR.out j;rw [HP.out,HD.out] at h
      exact h)
     rw [nU] at kN;have kS:=ah kN;have qP:=ah oN;clear kN oN nU;go_wp2;refine bodyPost_ret (results_tmp rfl _ _ _) rfl ⟨rfl,kS.out,Below.thenGrown lI.out qP.out⟩
theorem IZ (X Y j : Nat) : X % (Y * WW ^ (j + 1)) / WW ^ j / Y = dg (X / Y) j:=by unfold dg;rw [Nat.div_div_eq_div_mul,Nat.div_div_eq_div_mul,show Y * WW ^ (j + 1) = WW ^ j * Y * WW by rw [Nat.pow_succ,<- Nat.mul_assoc,Nat.mul_comm Y],Nat.mod_mul_right_div_self,Nat.mul_comm Y]
theorem adb (X Y j : Nat) : X % (Y * WW ^ (j + 1)) - Y * (X % (Y * WW ^ (j + 1)) / WW ^ j / Y) * WW ^ j = X % (Y * WW ^ j):=by
 rw [IZ];have e : Y * WW ^ (j + 1) = Y * WW ^ j * WW:=by rw [Nat.pow_succ,<- Nat.mul_assoc]
 have e2 : dg (X / Y) j = X / (Y * WW ^ j) % WW:=by unfold dg;rw [Nat.div_div_eq_div_mul]
 rw [e,Nat.mod_mul,e2];have e3 : Y * (X / (Y * WW ^ j) % WW) * WW ^ j = Y * WW ^ j * (X / (Y * WW ^ j) % WW):=by grind
 rw [e3];omega
theorem ahq {Y : Nat} (h : 0 < Y) : ∃ s,s < 64 /\ s = 64 - bo (dg Y (ln Y - 1)) /\ Y * 2 ^ s < WW ^ ln Y /\ 9223372036854775808 <= dg (Y * 2 ^ s) (ln Y - 1) /\ ln (Y * 2 ^ s) = ln Y /\ 0 < bo (dg Y (ln Y - 1)) /\ bo (dg Y (ln Y - 1)) <= 64:=by
 have hl:=ER h;obtain ⟨k,hk⟩ : ∃ k,ln Y = k + 1:=⟨ln Y - 1,by omega⟩;obtain ⟨h1,h2⟩:=UH hk;obtain ⟨t1,t2,t3⟩:=PD Y k h1 h2;rw [hk,Nat.add_sub_cancel];obtain ⟨B,hB⟩ : ∃ B,bo (dg Y k) = B:=⟨_,rfl⟩;rw [hB] at t1 t2 t3 ⊢;have h3:=mK Y;rw [t1] at h3;have e1 : WW ^ (k + 1) = 2 ^ (64 * k + 64):=by rw [jm];congr 1
 have e2 : (2 : Nat) ^ (64 * k + 64) = 2 ^ (64 * k + B) * 2 ^ (64 - B):=by rw [<- Nat.pow_add];congr 1;omega
 have hlt : Y * 2 ^ (64 - B) < WW ^ (k + 1):=by rw [e1,e2];exact Nat.mul_lt_mul_of_pos_right h3 (Nat.pow_pos zd)
 have hge : 2 ^ (64 * k + B - 1) <= Y:=by
  rcases Nat.lt_or_ge Y (2 ^ (64 * k + B - 1)) with h4 | h4
  . have:=fE h4;omega
  . exact h4
 have Sz : 9223372036854775808 * WW ^ k <= Y * 2 ^ (64 - B):=by
  have e3 : 9223372036854775808 * WW ^ k = 2 ^ (64 * k + B - 1) * 2 ^ (64 - B):=by rw [jm,<- Nat.pow_add,show 64 * k + B - 1 + (64 - B) = 63 + 64 * k by omega,Nat.pow_add]
  rw [e3];exact Nat.mul_le_mul_right _ hge
 refine ⟨64 - B,by omega,rfl,hlt,?_,?_,t3,t2⟩
 . unfold dg;have h5 : 9223372036854775808 <= Y * 2 ^ (64 - B) / WW ^ k:=(Nat.le_div_iff_mul_le (dv k)).2 Sz;have h6 : Y * 2 ^ (64 - B) / WW ^ k < WW:=by refine Nat.div_lt_of_lt_mul ?_;rw [Nat.pow_succ] at hlt;exact hlt
   rw [Nat.mod_eq_of_lt h6];exact h5
 . refine UG hlt (Nat.le_trans ?_ Sz);exact Nat.le_mul_of_pos_left _ zd
theorem acH (b o n cap v : Nat) (w : World) (hm : n <= 1099511627776) (hcap : n <= cap) (hc : di w b o n v) (hv : v < WW ^ n) :
 Calls Tryz.prog 165 #[.slice (some ⟨b,o,none⟩) n cap] w fun e w'=>e = .returned (.slice (some ⟨b,o,none⟩) (ln v) cap) /\ Bw w w':=by
 refine (jp b o n cap v w hm hcap hc hv).mono ?_;rintro e w' ⟨he,rfl⟩;exact ⟨he,Below.refl _ _⟩
theorem adf (b m cap v n : Nat) (w : World) (hm : m <= 549755813888) (hcap : m <= cap) (hn : n < 64) (hx : di w b 0 m v) (hv : v < WW ^ m) :
 Calls Tryz.prog 167 #[.slice (some ⟨b,0,none⟩) m cap,.int .i64 (n : Int)] w fun e w'=>∃ a k c,e = .returned (.slice a k c) /\ (wY w' a k (v / 2 ^ n) /\ k <= c /\ k <= 549755813888 /\ v / 2 ^ n < WW ^ k) /\ Bw w w':=by
 rcases Nat.eq_zero_or_pos m with h | h
 . subst h;have hv0 : v = 0:=by simpa using hv
   subst hv0;refine (Qg (some ⟨b,0,none⟩) 0 cap n w zo zo zo).mono ?_;rintro e w' ⟨he,rfl⟩;exact ⟨none,0,0,he,⟨fun h=>absurd h zo,Nat.le_refl _,by omega,by rw [Nat.zero_div];exact dv 0⟩,Below.refl _ _⟩
 . have h64 : n / 64 = 0:=by omega
   refine (Qf b 0 m cap v n w hm hcap zo hx hv zo).mono ?_;rintro e w' ⟨he,hB,hb,hle⟩;exact ⟨_,_,_,he,⟨fun _=>⟨_,_,rfl,hB.lim _ hle⟩,hle,by omega,dV _⟩,hb⟩
theorem ahf (l m : List UInt8) (w : World) (hl : l.length <= 68719476736) (hm : m.length <= 68719476736) (hm0 : 0 < nv m) (hle : nv m <= nv l) :
 Calls Tryz.prog 156 #[.string (bs l),.string (bs m)] w fun e w'=>e = .returned (.tuple #[.string (bs (nt (nv l / nv m))),.string (bs (nt (nv l % nv m))),.bool true]) /\ Bw w w':=by
 obtain ⟨X,hX⟩ : ∃ X,nv l = X:=⟨_,rfl⟩;obtain ⟨Y,hY⟩ : ∃ Y,nv m = Y:=⟨_,rfl⟩;have h1:=fun W=>jY l W zo;have h2:=fun W=>jY m W zo;rw [hX] at h1 hle ⊢;rw [hY] at h2 hle hm0 ⊢;obtain ⟨s,hs,TK,Eg,EL,EA,Sb,hbl⟩:=ahq hm0;have Rz : 0 < X:=by omega
 have hlx:=ER Rz;have AR:=ER hm0;obtain ⟨lx,vv⟩ : ∃ lx,ln X = lx:=⟨_,rfl⟩;obtain ⟨ly,vw⟩ : ∃ ly,ln Y = ly:=⟨_,rfl⟩;have mP:=dV X;have ry:=dV Y;rw [vv] at h1 hlx mP;rw [vw] at h2 AR ry Eg EL EA TK Sb hbl;obtain ⟨cx,iU⟩ : ∃ cx,(l.length + 7) / 8 = cx:=⟨_,rfl⟩;obtain ⟨cy,sY⟩ : ∃ cy,(m.length + 7) / 8 = cy:=⟨_,rfl⟩;rw [iU] at h1;rw [sY] at h2;have EB : lx <= cx:=by rw [<- vv,<- iU,<- hX];exact gK (CX l)
 have EC : ly <= cy:=by rw [<- vw,<- sY,<- hY];exact gK (CX m)
 have aeI : cx <= 8589934593:=by omega
 have Em : cy <= 8589934593:=by omega
 have jR : ¬ cC X Y < 0:=by unfold cC;rw [if_neg zo];split<;>omega
 have Eo : X * 2 ^ s / (Y * 2 ^ s) = X / Y:=Nat.mul_div_mul_right _ _ (Nat.pow_pos zd);have hdr : X * 2 ^ s % (Y * 2 ^ s) = X % Y * 2 ^ s:=Nat.mul_mod_mul_right _ _ _;have gH : X * 2 ^ s < WW ^ (lx + 1):=by rw [Nat.pow_succ];exact Nat.mul_lt_mul'' mP (by rw [jl];exact Nat.pow_lt_pow_right zd hs)
 have Ta:=gK gH;obtain ⟨X',JR⟩ : ∃ X',X * 2 ^ s = X':=⟨_,rfl⟩;obtain ⟨Y',JW⟩ : ∃ Y',Y * 2 ^ s = Y':=⟨_,rfl⟩;have EM:=fun b W h=>MI b 0 lx cx X s W zo zo h mP;have KT:=fun b W h=>MI b 0 ly cy Y s W zo zo h ry;rw [JR] at Eo hdr gH Ta;rw [JW] at Eo hdr Eg EL EA;simp only [JR,show s / 64 = 0 by omega,Nat.add_zero] at EM;simp only [JW,show s / 64 = 0 by omega,Nat.add_zero,EA] at KT;obtain ⟨lX,Ey⟩ : ∃ lX,ln X' = lX:=⟨_,rfl⟩;rw [Ey] at Ta;simp only [Ey] at EM;have JU : X' < WW ^ lX:=by rw [<- Ey];exact dV _
 have Ke:=fun b W h=>IR (some ⟨b,0,none⟩) lX (lx + 1) X' ((lx : Int) + 2) W zo zo zo h JU;rw [show max ((lx : Int) + 2).toNat lX = lx + 2 by omega] at Ke;have AU : ∀ W,Calls Tryz.prog 177 #[.int .u64 (dg Y (ly - 1) : Int)] W fun e w'=>e = .returned (.int .i64 (s : Int)) /\ W = w':=fun W=>by have:=Lt (dg Y (ly - 1)) W (ik _ _);rw [show (64 - (bo (dg Y (ly - 1)) : Int)) = (s : Int) by omega] at this;exact this
 have kI : ly <= lx:=by
  have h3 : ¬ lx < ly:=fun h3=>by have:=Lm (v:=X) (u:=Y) (by rw [vv,vw];exact h3);omega
  omega
 have hmk:=vW ((lx : Int) + 2 - ly) (lx + 2 - ly) zo zo;have H1:=ah h1;have H2:=ah h2;have aab:=ah EM;have aac:=ah KT;have Yg:=ah Ke;have GJ:=ah AU;have Cw:=ah mP;have Gb:=ah ry;have XS:=ah Eg;have zN:=ah EL;have Yk:=ah Eo;have qJ:=ah hdr;have akV:=ah JU;have Cx:=ah gH;have Hm0:=ah hm0;clear h1 h2 EM KT Ke AU mP ry Eg EL Eo hdr JU gH hX hY TK vv vw iU sY JR JW Ey EA hle Rz hm0 Sb hbl;go_enter Tryz.func156,Tryz.ntmps156;go_wp2_with fail;refine (H1.out w).mono ?_;rintro e w1 ⟨rfl,bH,hb1,eW⟩;have dI:=ah bH;have bI:=ah hb1;clear bH hb1;go_wp2_with fail;refine (H2.out w1).mono ?_;rintro e w2 ⟨rfl,dS,hb2,xL⟩;have eN:=ah dS;have bS:=ah (aJ bI.out hb2);replace dI:=ah (dI.out.below hb2);have s1:=dI.out.lt;have s2:=eN.out.lt;clear dS hb2;have ae0 : ((ly : Int) == 0) = false:=by simp;omega
 go_wp2_with fail;refine (vT w.heap.size 0 lx cx X w1.heap.size 0 ly cy Y w2 zo eW (dI.out.lim _ eW) Cw.out zo xL (eN.out.lim _ xL) Gb.out).mono ?_;rintro e w3 ⟨rfl,hb3⟩;replace dI:=ah (dI.out.below hb3);replace eN:=ah (eN.out.below hb3);have dD:=ah (aJ bS.out hb3);clear hb3;obtain ⟨c,hc⟩ : ∃ c,cC X Y = c:=⟨_,rfl⟩;rw [hc] at jR ⊢;clear hc;have hdec : decide (c < 0) = false:=by simp;omega
 have i1:=Bo ly cy (ly - 1) ((ly : Int) - 1) (rfl : (some ⟨w1.heap.size,0,none⟩ : Option Addr) = _) zo zo;rw [Nat.mul_one,Nat.zero_add] at i1;have cY : w3.cell? ⟨w1.heap.size,ly - 1,none⟩ = some (.int .u64 (dg Y (ly - 1) : Int)):=by rw [eN.out.cell,fC _ _ _ zo]
 go_wp2_with fail;refine (GJ.out w3).mono ?_;rintro e w4 ⟨rfl,rfl⟩;clear cY i1;go_wp2_with fail;refine (aab.out w.heap.size w3 (dI.out.lim _ eW)).mono ?_;rintro e w4 ⟨rfl,qB,qb,qle⟩;have FL:=ah qB;replace eN:=ah (eN.out.below qb);have gZ:=ah (aJ dD.out qb);have s4:=FL.out.lt;clear qB qb;go_wp2_with fail;refine (Yg.out w3.heap.size w4 (fun _=>⟨_,_,rfl,FL.out.lim _ zo⟩)).mono ?_;rintro e w5 ⟨rfl,qB,qb⟩;have ko:=ah qB;replace eN:=ah (eN.out.below qb);have eX:=ah (aJ gZ.out qb);have s5:=ko.out.lt;clear qB qb;go_wp2_with fail;refine (aac.out w1.heap.size w5 (eN.out.lim _ xL)).mono ?_;rintro e w6 ⟨rfl,qB,qb,anA⟩;have kS:=ah qB;replace ko:=ah (ko.out.below qb);have Gf:=ah (aJ eX.out qb);have s6:=kS.out.lt;have Wh:=ko.out.lt;have q4:=gZ.out.size;clear qB qb dI eN FL bI bS dD gZ eX;obtain ⟨M,hM⟩ : ∃ M,lx + 2 - ly = M:=⟨_,rfl⟩;rw [hM] at hmk;obtain ⟨lB,hlB⟩ : ∃ lB,w4.heap.size = lB:=⟨_,rfl⟩;obtain ⟨yB,Uh⟩ : ∃ yB,w5.heap.size = yB:=⟨_,rfl⟩;rw [hlB] at ko s5 Wh q4 ⊢;rw [Uh] at kS s6 s5 ⊢;obtain ⟨W7,Ed⟩ : ∃ W7,w6.alloc (.cells #[.slice (some ⟨lB,0,none⟩) (lx + 2) (lx + 2),.slice (some ⟨yB,0,none⟩) ly (ly + 1)] 198) = W7:=⟨_,rfl⟩;have gw : Bw w6 W7:=by rw [<- Ed];exact zl
 have Gp : Hid (ai W7 w6.heap.size 198 [.slice (some ⟨lB,0,none⟩) (lx + 2) (lx + 2),.slice (some ⟨yB,0,none⟩) ly (ly + 1)]):=by rw [<- Ed];exact ai.new _ _ _
 have s7 : W7.heap.size = w6.heap.size + 1:=by rw [<- Ed];simp
 obtain ⟨W8,JP⟩ : ∃ W8,W7.alloc (.cells (bu M fun _=>0).toArray 142) = W8:=⟨_,rfl⟩;have fM : Bw W7 W8:=by rw [<- JP];exact zl
 have Ho : Hid (ai W8 W7.heap.size 142 (bu M fun _=>0)):=by rw [<- JP];exact ai.new _ _ _
 have Hd:=ah (Gp.out.below fM);replace ko:=ah ((ko.out.below gw).below fM);replace kS:=ah ((kS.out.below gw).below fM);have gF:=ah (aJ (aJ Gf.out gw) fM);have FB:=Gf.out.size;have S7:=ah s7;clear gw fM Gf hlB Uh s7;obtain ⟨d0,d1⟩:=Gp.out.c2;go_wp2_with fail;have Ol : Hid (di W8 yB 0 ly Y'):=kS.out.lim _ zo;have Ao : M + ly = lx + 2:=by omega
 have JS : X' < Y' * WW ^ M:=by have h1 : WW ^ (ly - 1) <= Y':=WF (by have:=zN.out;omega);have h2 : WW ^ (ly - 1) * WW ^ M <= Y' * WW ^ M:=Nat.mul_le_mul_right _ h1;rw [<- Nat.pow_add,show ly - 1 + M = lx + 1 by omega] at h2;exact Nat.lt_of_lt_of_le Cx.out h2
 have RH : 0 < Y':=by
  rcases Nat.eq_zero_or_pos Y' with h | h
  . have:=zN.out;rw [h] at this;unfold dg at this;simp at this
  . exact h
 have Rj : X' / Y' < WW ^ M:=Nat.div_lt_of_lt_mul JS;have XR:=ah JS;have XT:=ah RH;have XE:=ah Rj;clear JS RH Rj d0 d1 Ed JP hmk hM;obtain ⟨oB,KH⟩ : ∃ oB,W7.heap.size = oB:=⟨_,rfl⟩;rw [KH] at Ho ⊢;have Tp : oB = w6.heap.size + 1:=by rw [<- KH];exact S7.out
 obtain ⟨dB,Si⟩ : ∃ dB,w6.heap.size = dB:=⟨_,rfl⟩;rw [Si] at Hd Tp s6 Wh FB ⊢;have al6 : dB < oB:=by omega
 clear KH Si S7 Gp Tp;go_loopw [12] (fun x wr=>∃ (k : Nat) (i : Int),k <= M /\ i = (k : Int) - 1 /\ x = .int .i64 i /\ ai wr dB 198 [.slice (some ⟨lB,0,none⟩) (lx + 2) (lx + 2),.slice (some ⟨yB,0,none⟩) ly (ly + 1)] /\ ai wr lB 142 (bu (lx + 2) (dg (X' % (Y' * WW ^ k)))) /\ ai wr oB 142 (bu M fun j=>if k <= j then dg (X' / Y') j else 0) /\ di wr yB 0 ly Y' /\ Bw w wr) (fun x _=>(intOf x + 1).toNat);case atStart=>
  refine ⟨M,_,Nat.le_refl _,rfl,rfl,Hd.out,?_,?_,Ol.out,gF.out⟩
  . rw [Nat.mod_eq_of_lt XR.out];exact ko.out
  . have e : bu M (fun j=>if M <= j then dg (X' / Y') j else 0) = bu M fun _=>0:=iL (fun j hj=>by rw [if_neg zo]);rw [e];exact Ho.out
 case round=>
  clear Hd ko Ho Ol gF kS;obtain ⟨k,i,hk,hi,rfl,pd,pl,po,py,pb⟩:=hrel;have Hd:=ah pd;have Hl:=ah pl;have Ho:=ah po;have Hy:=ah py;have Hb:=ah pb;clear pd pl po py pb;obtain ⟨d0,d1⟩:=Hd.out.c2;by_cases jv : 0 < k
  . obtain ⟨j,rfl⟩ : ∃ j,k = j + 1:=⟨k - 1,by omega⟩;obtain rfl : i = (j : Int):=by omega
    clear hi;go_wp2_with fail;refine (ac7 lB (lx + 2) (lx + 2) (X' % (Y' * WW ^ (j + 1))) yB 0 ly (ly + 1) Y' j wr zo (Nat.le_refl _) AR zo Hl.out Hy.out XS.out zN.out (Nat.mod_lt _ (Nat.mul_pos XT.out (dv _))) zo zo).mono ?_;rintro e w9 ⟨rfl,qB,qg⟩;rw [IZ] at qB ⊢;have hrest:=adb X' Y' j;rw [IZ] at hrest;rw [hrest] at qB;have kn : ∀ b,b ≠ lB -> some b ≠ some lB:=fun b h e=>h (Option.some.inj e);have YO:=ah qB;have NT:=ah (Hd.out.grown qg (kn _ zo));have GQ:=ah (Ho.out.grown qg (kn _ zo));have Hy9:=ah (Hy.out.grown qg (kn _ zo));have Ya:=ah (Hb.out.grown qg Hb.out.size (fun b e=>by have:=Option.some.inj e;omega));obtain ⟨q,hq⟩ : ∃ q,dg (X' / Y') j = q:=⟨_,rfl⟩;rw [hq];have Hq:=ah hq;have i2:=Bo M M j (j : Int) (rfl : (some ⟨oB,0,none⟩ : Option Addr) = _) zo rfl;rw [Nat.mul_one,Nat.zero_add] at i2;have co : w9.cell? ⟨oB,j,none⟩ = some (.int .u64 ((if j + 1 <= j then dg (X' / Y') j else 0 : Nat) : Int)):=by rw [GQ.out.cell,fC _ _ _ zo]
    have fo : w9.frozen? ⟨oB,j,none⟩ = false:=GQ.out.free j;clear qB qg hrest hq d0 d1;obtain ⟨d0,d1⟩:=NT.out.c2;go_wp2;go_roundw;case rel=>
     refine ⟨j,(j : Int) - 1,by omega,rfl,by go_num,NT.out.so oB j zo _,YO.out.so oB j zo _,?_,?_,Ya.out.sc oB j zo _⟩
     . have h:=GQ.out.set j (.int .u64 (q : Int));rw [yE] at h
       have e : bu M (fun i=>if i = j then q else if j + 1 <= i then dg (X' / Y') i else 0) = bu M (fun i=>if j <= i then dg (X' / Y') i else 0):=iL (fun i hi=>by
        by_cases h1 : i = j
        . subst h1;rw [if_pos rfl,if_pos (Nat.le_refl _)];exact Hq.out.symm
        . rw [if_neg h1];by_cases h2 : j + 1 <= i
          . rw [if_pos h2,if_pos zo]
          . rw [if_neg h2,if_neg zo])
       rw [e] at h;exact h
     . exact fun t ht=>eV zp (Hy9.out t ht)
    case measure=>simp [intOf]
  . obtain rfl : k = 0:=by omega
    obtain rfl : i = -1:=by omega
    have HL : Hid (di wr oB 0 M (X' / Y')):=fun t ht=>by rw [Ho.out.cell,Nat.zero_add,fC _ _ _ ht,if_pos (Nat.zero_le _)]
    have hR : X' % (Y' * WW ^ 0) = X' % Y':=by rw [Nat.pow_zero,Nat.mul_one]
    rw [hR] at Hl;have NA : Hid (X' % Y' < WW ^ (lx + 2)):=Nat.lt_of_le_of_lt (Nat.mod_le _ _) (Nat.lt_of_lt_of_le Cx.out (Nat.pow_le_pow_right ij zo));have SZ:=gK NA.out;have HR:=ah (show X' % Y' / 2 ^ s = X % Y by rw [qJ.out];exact Nat.mul_div_cancel _ (Nat.pow_pos zd));clear hi hR;go_wp2_with fail;have kq:=Hb;clear Hb;have Hb : Hid (Bw wr wr):=Below.refl _ _;obtain ⟨d0,d1⟩:=Hd.out.c2;refine bE (fun w'=>w'.cell? ⟨dB,0,none⟩ = some (.slice (some ⟨lB,0,none⟩) (lx + 2) (lx + 2))) (fun i=>Nat.blt i 100000) [(0,true),(2,true),(3,true),(5,true),(1,false),(4,false),(6,false),(7,false),(8,true),(9,true),(10,true)] zk zk rfl zk zc d0 ?_;iterate 4 (refine pT rfl rfl ?_;try simp only [UU])
    refine aI rfl rfl (fun K hK=>?_);go_simp;with_reducible refine (uj oB 0 M M (X' / Y') _ zo (Nat.le_refl _) (HL.out.below (by first | exact Hb.out | exact Below.drew Hb.out)) XE.out).mono ?_
    rintro e y1 ⟨rfl,hq⟩;have ae : Bw wr y1:=by first | exact hq | exact aN hq
    clear d0 d1;replace Hd:=kB Hd ae;obtain ⟨d0,d1⟩:=Hd.out.c2;replace Hb:=az Hb ae;clear ae;refine hK _ _ (fun _=>d0) ?_;clear hK K;try simp only [UU]
    refine aI rfl rfl (fun K hK=>?_);go_simp;with_reducible refine (acH lB 0 (lx + 2) (lx + 2) (X' % Y') _ zo (Nat.le_refl _) ((Hl.out.lim _ (Nat.le_refl _)).below (by first | exact Hb.out | exact Below.drew Hb.out)) NA.out).mono ?_
    rintro e y2 ⟨rfl,hq⟩;have ae : Bw y1 y2:=by first | exact hq | exact aN hq
    clear d0 d1;replace Hd:=kB Hd ae;obtain ⟨d0,d1⟩:=Hd.out.c2;replace Hb:=az Hb ae;clear ae;refine hK _ _ (fun _=>d0) ?_;clear hK K;try simp only [UU]
    refine aI rfl rfl (fun K hK=>?_);go_simp;with_reducible refine (adf lB (ln (X' % Y')) (lx + 2) (X' % Y') s _ zo SZ hs ((Hl.out.lim _ SZ).below (by first | exact Hb.out | exact Below.drew Hb.out)) (dV _)).mono ?_
    rintro e y3 ⟨a,k,c2,rfl,⟨qL,qc,qk,qv⟩,hq⟩;have ae : Bw y2 y3:=by first | exact hq | exact aN hq
    clear d0 d1;replace Hd:=kB Hd ae;obtain ⟨d0,d1⟩:=Hd.out.c2;replace Hb:=az Hb ae;clear ae;refine hK _ _ (fun _=>d0) ?_;clear hK K;try simp only [UU]
    refine aI rfl rfl (fun K hK=>?_);go_simp;with_reducible refine (WC a k c2 (X' % Y' / 2 ^ s) _ zo qc qL qv).mono ?_
    rintro e y4 ⟨rfl,hq⟩;have ae : Bw y3 y4:=by first | exact hq | exact aN hq
    clear d0 d1;replace Hd:=kB Hd ae;obtain ⟨d0,d1⟩:=Hd.out.c2;replace Hb:=az Hb ae;clear ae;refine hK _ _ (fun _=>d0) ?_;clear hK K;try simp only [UU]
    iterate 3 (refine pT rfl rfl ?_;try simp only [UU])
    simp only [aV];go_wp2;refine bodyPost_ret (v:=.tuple #[.string (bs (nt (X / Y))),.string (bs (nt (X % Y))),.bool true]) (by have h1:=Yk.out;have h2:=HR.out;simp [results,Tryz.results156,go_sem,h1,h2]) rfl ⟨rfl,aJ kq.out Hb.out⟩
section
variable {P : Program} {md : Region.Mode} {ops : Array Oper} {Q : Exit -> Act -> World -> Prop} {S : World -> Prop} {J : Nat -> Bool}
def zV (md : Region.Mode) (ops : Array Oper) (J : Nat -> Bool) (es : List Nat) (D : Nat -> List Nat) (last : List (Nat × Bool)) : Nat -> Array Bool -> Bool
 | 0,listed=>es.all (fun k=>listed.getD k false) && qj md ops J last listed
 | n + 1,listed=>listed.size == ops.size && !(Region.ready md ops listed).isEmpty && (Region.ready md ops listed).all fun k=>es.contains k && !(listed.getD k false) && decide (k < listed.size) && (D k).all (fun d=>es.contains d && listed.getD d false) && zV md ops J es D last n (listed.setIfInBounds k true)
def pD (es : List Nat) (listed : Array Bool) (i : Nat) : Bool:=es.contains i && listed.getD i false
theorem ade {es : List Nat} {listed : Array Bool} {k : Nat} (hk : es.contains k = true) (hl : k < listed.size) : pD es (listed.setIfInBounds k true) = fun i=>i == k || pD es listed i:=by
 funext i
 unfold pD;by_cases h : i = k
 . subst h;simp only [beq_self_eq_true,Bool.true_or];rw [hk];simp [hl]
 . have h2 : (i == k) = false:=by simpa using h
   rw [h2,Bool.false_or,getD_set_ne false (fun e=>h e.symm)]
theorem akt (hs : Region.noSelect ops = true) (hQ : ∀ (o : Oper) c a v w,Q (.panic c) (a.put o.dst v) w -> Q (.panic c) a w) (es : List Nat) (D : Nat -> List Nat) (last : List (Nat × Bool)) (I : (Nat -> Bool) -> Act -> World -> Prop)
 (h2 : ∀ dn a w,I dn a w -> S w) (h3 : ∀ k ∈ es,∀ dn a w,dn k = false -> (∀ d ∈ D k,dn d = true) -> I dn a w -> wpOp P ops Q k (I fun i=>i == k || dn i) a w) (h4 : ∀ dn a w,(∀ k ∈ es,dn k = true) -> I dn a w -> aV P ops Q S J last a w) (n : Nat) :
 ∀ (listed : Array Bool) (a : Act) (w : World),Closed md ops listed -> zV md ops J es D last n listed = true -> I (pD es listed) a w -> qD P md ops Q S J (last.length + n) listed a w:=by
 induction n with
 | zero =>intro listed a w hc hok h;simp only [zV,Bool.and_eq_true,List.all_eq_true] at hok;exact Cj hs hQ last _ _ _ hc hok.2 (fun _=>h2 _ _ _ h) (h4 _ _ _ (fun k hk=>by unfold pD;rw [hok.1 k hk];simpa using hk) h)
 | succ n ih =>
   intro listed a w hc hok h;simp only [zV,Bool.and_eq_true,List.all_eq_true] at hok;obtain ⟨⟨_,h5⟩,h6⟩:=hok;refine ⟨fun h0=>(by rw [h0] at h5;simp at h5),fun k hk=>?_⟩;obtain ⟨⟨⟨⟨q1,q2⟩,q3⟩,q4⟩,q5⟩:=h6 k hk;have q3' : k < listed.size:=of_decide_eq_true q3;have hf : pD es listed k = false:=by unfold pD;rw [q1];simpa using q2
   refine wpOp_mono (fun a1 w1 q=>⟨fun _=>h2 _ _ _ q,ih _ _ _ (hc.list hk) q5 ?_⟩) (h3 k (by simpa using q1) _ a w hf (fun d hd=>by unfold pD;rw [Bool.and_eq_true];exact q4 d hd) h);rw [ade q1 q3'];exact q
def BD (md : Region.Mode) (ops : Array Oper) (J : Nat -> Bool) (es : List Nat) (D : Nat -> List Nat) (last : List (Nat × Bool)) : List Nat -> Array Bool -> Bool
 | [],listed=>es.all (fun k=>!(listed.getD k false)) && zV md ops J es D last es.length listed
 | x :: r,listed=>(Region.ready md ops listed).contains x && Region.free md ops listed x && waits md ops J x && BD md ops J es D last r (listed.setIfInBounds x true)
def aks (P : Program) (ops : Array Oper) (Q : Exit -> Act -> World -> Prop) (S : World -> Prop) (J : Nat -> Bool) (es : List Nat) (D : Nat -> List Nat) (last : List (Nat × Bool)) (a : Act) (w : World) : Prop:=
 ∃ I : (Nat -> Bool) -> Act -> World -> Prop,I (fun _=>false) a w /\ (∀ dn a w,I dn a w -> S w) /\ (∀ k ∈ es,∀ dn a w,dn k = false -> (∀ d ∈ D k,dn d = true) -> I dn a w -> wpOp P ops Q k (I fun i=>i == k || dn i) a w) /\ ∀ dn a w,(∀ k ∈ es,dn k = true) -> I dn a w -> aV P ops Q S J last a w
def yH (P : Program) (ops : Array Oper) (Q : Exit -> Act -> World -> Prop) (S : World -> Prop) (J : Nat -> Bool) (es : List Nat) (D : Nat -> List Nat) (last : List (Nat × Bool)) : List Nat -> Act -> World -> Prop
 | [],a,w=>aks P ops Q S J es D last a w
 | x :: r,a,w=>∃ o v,ops[x]? = some o /\ YieldsIf P ops S o v a /\ yH P ops Q S J es D last r (a.put o.dst v) w
theorem aku (hs : Region.noSelect ops = true) (hQ : ∀ (o : Oper) c a v w,Q (.panic c) (a.put o.dst v) w -> Q (.panic c) a w) (es : List Nat) (D : Nat -> List Nat) (last : List (Nat × Bool)) (r : List Nat) :
 ∀ (listed : Array Bool) (a : Act) (w : World),Closed md ops listed -> BD md ops J es D last r listed = true -> S w -> yH P ops Q S J es D last r a w -> qD P md ops Q S J (last.length + es.length + r.length) listed a w:=by
 induction r with
 | nil =>
   intro listed a w hc hok hS h;simp only [BD,Bool.and_eq_true,List.all_eq_true] at hok;obtain ⟨I,h1,h2,h3,h4⟩:=h;have e : pD es listed = fun _=>false:=by
    funext i
    unfold pD;by_cases hi : es.contains i = true
    . have:=hok.1 i (by simpa using hi);rw [hi];simpa using this
    . simp only [Bool.not_eq_true] at hi;rw [hi];rfl
   exact akt hs hQ es D last I h2 h3 h4 es.length listed a w hc hok.2 (by rw [e];exact h1)
 | cons x r ih =>intro listed a w hc hok hS h;simp only [BD,Bool.and_eq_true] at hok;obtain ⟨⟨⟨h1,h2⟩,h3⟩,h4⟩:=hok;obtain ⟨o,v,ho,hy,h⟩:=h;exact Ci ho (Region.noSelect_spec hs) (fun c a w=>hQ o c a v w) h3 (last.length + es.length + r.length) listed a w hc h2 (by simpa using h1) hy hS (ih _ _ _ (hc.list (by simpa using h1)) h4 hS h)
theorem akA {id : Nat} {a : Act} {w : World} (S : World -> Prop) (J : Nat -> Bool) (es : List Nat) (D : Nat -> List Nat) (last : List (Nat × Bool)) (r : List Nat) (hm : P.follows .mixedOrders = true) (hs : Region.noSelect ops = true)
 (hl : last.length + es.length + r.length = ops.size) (hok : BD .any ops J es D last r (Array.replicate ops.size false) = true)
 (hQ : ∀ (o : Oper) c a v w,Q (.panic c) (a.put o.dst v) w -> Q (.panic c) a w) (hS : S w.drew) (h : yH P ops Q S J es D last r a w.drew) : (Code.region id ops true).wp P Q a w:=by
 refine wp_region_any hm (Ck ops.size _ _ _ ?_ (S:=S) (J:=J));have:=aku (md:=.any) (S:=S) (J:=J) hs hQ es D last r (Array.replicate ops.size false) a w.drew (Closed.empty _) hok hS h;rw [hl] at this;exact this
theorem ah6 {x : Nat} {es : List Nat} {D : Nat -> List Nat} {last : List (Nat × Bool)} {r : List Nat} {o : Oper} {v : Value} {a : Act} {w : World} (ho : ops.toList[x]? = some o) (hw : Region.wanted o (yielded ops a.tmps) = true)
 (hy : ∀ w',S w' -> (execOp a.eval o).run P w' = .ok (.value v) w') (h : yH P ops Q S J es D last r (a.put o.dst v) w) : yH P ops Q S J es D last (x :: r) a w:=
 ⟨o,v,by rw [<- Array.getElem?_toList];exact ho,.inl ⟨hw,hy⟩,h⟩
theorem ah5 {es : List Nat} {D : Nat -> List Nat} {last : List (Nat × Bool)} {a : Act} {w : World} (I : Act -> (Nat -> Bool) -> Act -> World -> Prop) (h1 : I a (fun _=>false) a w) (h2 : ∀ dn a' w',I a dn a' w' -> S w')
 (h3 : ∀ k ∈ es,∀ dn a' w',dn k = false -> (∀ d ∈ D k,dn d = true) -> I a dn a' w' -> wpOp P ops Q k (I a fun i=>i == k || dn i) a' w') (h4 : ∀ dn a' w',(∀ k ∈ es,dn k = true) -> I a dn a' w' -> aV P ops Q S J last a' w') : yH P ops Q S J es D last [] a w:=
 ⟨I a,h1,h2,h3,h4⟩
theorem yj {k : Nat} {o : Oper} {a : Act} {w : World} {R : Act -> World -> Prop} (ho : ops.toList[k]? = some o) (hw : Region.wanted o (yielded ops a.tmps) = true) (h : ∀ K : Act -> World -> Prop,(∀ a' w',R a' w' -> K a' w') -> o.wp P a w K Q) : wpOp P ops Q k R a w:=by rw [Array.getElem?_toList] at ho;unfold wpOp;simp only [ho,hw,if_true];exact .inl (h _ (fun a' w' h=>h))
theorem yo (a : Act) (k : Nat) : a.put (some k) (a.tmps.getD k undef) = a:=by
 unfold Act.put;have : a.tmps.setIfInBounds k (a.tmps.getD k undef) = a.tmps:=by
  apply Array.ext
  . simp
  . intro i h1 h2;rw [Array.getElem_setIfInBounds];split
    . rename_i e;subst e;simp [h2]
    . rfl
 cases a
 simp only at this ⊢;rw [this]
end
section
variable {P : Program} {md : Region.Mode} {ops : Array Oper} {Q : Exit -> Act -> World -> Prop} {S : World -> Prop} {J : Nat -> Bool}
def solo (r : List Nat) (i : Nat) (b : Bool) : Bool:=match r with
 | [k]=>k == i
 | _=>r.contains i && b
def rQ (md : Region.Mode) (ops : Array Oper) (J : Nat -> Bool) : List (Nat × Bool) -> Array Bool -> Bool
 | [],listed=>(Region.ready md ops listed).isEmpty
 | (i,true) :: rest,listed=>solo (Region.ready md ops listed) i (Region.free md ops listed i && waits md ops J i) && rQ md ops J rest (listed.setIfInBounds i true)
 | (i,false) :: rest,listed=>Region.ready md ops listed == [i] && (J i || !rest.any (·.2)) && rQ md ops J rest (listed.setIfInBounds i true)
theorem akw (hs : Region.noSelect ops = true) (hQ : ∀ (o : Oper) c a v w,Q (.panic c) (a.put o.dst v) w -> Q (.panic c) a w) (plan : List (Nat × Bool)) :
 ∀ (listed : Array Bool) (a : Act) (w : World),Closed md ops listed -> rQ md ops J plan listed = true -> (plan.any (·.2) = true -> S w) -> aV P ops Q S J plan a w -> qD P md ops Q S J plan.length listed a w:=by
 induction plan with
 | nil =>intro listed a w _ hok _ h;exact ⟨List.isEmpty_iff.1 hok,h⟩
 | cons x rest ih =>
   obtain ⟨i,b⟩:=x;intro listed a w hc hok hS h;cases b with
   | true =>
     simp only [rQ,Bool.and_eq_true] at hok;obtain ⟨h1,h4⟩:=hok;obtain ⟨o,v,ho,hy,h⟩:=h;have hSw : S w:=hS zm;by_cases hr : Region.ready md ops listed = [i]
     . refine ⟨fun h0=>(by rw [hr] at h0;cases h0),fun j hj=>?_⟩;rw [hr] at hj;obtain rfl : j = i:=by simpa using hj
       exact hy.wpOp ho hSw ⟨fun _=>hSw,ih _ _ _ (hc.list (by rw [hr];exact List.mem_singleton.2 rfl)) h4 (fun _=>hSw) h⟩
     . have h9 : (Region.ready md ops listed).contains i = true /\ (Region.free md ops listed i && waits md ops J i) = true:=by
        unfold solo at h1;split at h1
        . rename_i k hk
          have : k = i:=by simpa using h1
          subst this;exact absurd hk hr
        . simpa [Bool.and_eq_true] using h1
       rw [Bool.and_eq_true] at h9;exact Ci ho (Region.noSelect_spec hs) (fun c a w=>hQ o c a v w) h9.2.2 rest.length listed a w hc h9.2.1 (by simpa using h9.1) hy hSw (ih _ _ _ (hc.list (by simpa using h9.1)) h4 (fun _=>hSw) h)
   | false =>
     simp only [rQ,Bool.and_eq_true,beq_iff_eq] at hok;obtain ⟨⟨h1,h2⟩,h3⟩:=hok;refine ⟨fun h0=>(by rw [h1] at h0;cases h0),fun j hj=>?_⟩;rw [h1] at hj;obtain rfl : j = i:=by simpa using hj
     refine wpOp_mono (fun a' w' h4=>⟨h4.1,ih _ _ _ (hc.list (by rw [h1];exact List.mem_singleton.2 rfl)) h3 (fun rB=>?_) h4.2⟩) h;rw [Bool.or_eq_true] at h2;rcases h2 with h2 | h2
     . exact h4.1 h2
     . rw [rB] at h2;cases h2
def sK (n : Nat) (listed : Array Bool) (m : Nat) : Prop:=listed.size = n /\ ∀ i,listed.getD i false = m.testBit i
def uh (md : Region.Mode) (m : Nat) : List Oper -> Nat -> List Nat
 | [],_=>[]
 | o :: os,k=>bif !m.testBit k && o.after.toList.all (fun e=>!Region.binds md e || m.testBit e.on) then k :: uh md m os (k + 1) else uh md m os (k + 1)
def DK (md : Region.Mode) (ops : Array Oper) (m : Nat) (oi : Oper) (i : Nat) : List Oper -> Nat -> Bool
 | [],_=>true
 | oj :: os,j=>(j == i || m.testBit j || (oj.after.toList.any (fun e=>Region.binds md e && e.on == i) || oi.apart ops oj)) && DK md ops m oi i os (j + 1)
def Jo (md : Region.Mode) (ops : Array Oper) (m i : Nat) : Bool:=match ops[i]? with
 | none=>false
 | some oi=>DK md ops m oi i ops.toList 0
def yn (md : Region.Mode) (ops : Array Oper) (J : Nat -> Bool) : List (Nat × Bool) -> Nat -> Bool
 | [],m=>(uh md m ops.toList 0).isEmpty
 | (i,true) :: rest,m=>solo (uh md m ops.toList 0) i (Jo md ops m i && waits md ops J i) && (Nat.blt i ops.size && yn md ops J rest (m ||| 2 ^ i))
 | (i,false) :: rest,m=>uh md m ops.toList 0 == [i] && (J i || !rest.any (·.2)) && (Nat.blt i ops.size && yn md ops J rest (m ||| 2 ^ i))
theorem aiD (m : Nat) : ∀ (os : List Oper) (k : Nat) (f : Nat -> Bool),(∀ j (hj : j < os.length),f (k + j) = (!m.testBit (k + j) && os[j].after.toList.all (fun e=>!Region.binds md e || m.testBit e.on))) -> uh md m os k = (List.range' k os.length).filter f:=by
 intro os;induction os with
 | nil=>intro k f _;rfl
 | cons o os ih =>
   intro k f h;have h0:=h 0 zm
   have h1:=ih (k + 1) f (fun j hj=>by
    have:=h (j + 1) zi;rw [show k + (j + 1) = k + 1 + j by omega] at this
    simpa using this)
   rw [Nat.add_zero] at h0;simp only [List.getElem_cons_zero] at h0;rw [List.length_cons,List.range'_succ,List.filter_cons];unfold uh;rw [h1,h0];cases (!m.testBit k && o.after.toList.all (fun e=>!Region.binds md e || m.testBit e.on))<;>rfl
theorem adS (m : Nat) (oi : Oper) (i : Nat) : ∀ (os : List Oper) (k : Nat) (f : Nat -> Bool),(∀ j (hj : j < os.length),f (k + j) = (k + j == i || m.testBit (k + j) || (os[j].after.toList.any (fun e=>Region.binds md e && e.on == i) || oi.apart ops os[j]))) -> DK md ops m oi i os k = (List.range' k os.length).all f:=by
 intro os;induction os with
 | nil=>intro k f _;rfl
 | cons o os ih =>
   intro k f h;have h0:=h 0 zm
   have h1:=ih (k + 1) f (fun j hj=>by
    have:=h (j + 1) zi;rw [show k + (j + 1) = k + 1 + j by omega] at this
    simpa using this)
   rw [Nat.add_zero] at h0;simp only [List.getElem_cons_zero] at h0;rw [List.length_cons,List.range'_succ,List.all_cons];unfold DK;rw [h1,h0]
theorem sK.bit {n : Nat} {listed : Array Bool} {m i : Nat} (h : sK n listed m) (hi : i < n) : listed.getD i true = m.testBit i:=by
 rw [<- h.2 i];have : i < listed.size:=by rw [h.1];exact hi
 simp [Array.getD,this]
theorem sK.set {n : Nat} {listed : Array Bool} {m i : Nat} (h : sK n listed m) (hi : i < n) : sK n (listed.setIfInBounds i true) (m ||| 2 ^ i):=by
 refine ⟨by simp [h.1],fun j=>?_⟩;rw [Nat.testBit_or,<- h.2 j,Nat.testBit_two_pow];by_cases hij : i = j
 . subst hij;have : i < listed.size:=by rw [h.1];exact hi
   simp [Array.getD,this]
 . rw [getD_set_ne false hij];simp [hij]
theorem Mf {listed : Array Bool} {m : Nat} (h : sK ops.size listed m) : Region.ready md ops listed = uh md m ops.toList 0:=by
 rw [aiD m ops.toList 0 (fun i=>!listed.getD i true && ((ops[i]?).map (·.after.all fun e=>!Region.binds md e || listed.getD e.on false)).getD false)]
 . unfold Region.ready;rw [List.range_eq_range',Array.length_toList]
 . intro j hj;rw [Array.length_toList] at hj;rw [Nat.zero_add,h.bit hj,Array.getElem?_eq_getElem hj,Option.map_some,Option.getD_some,Array.getElem_toList,<- Array.all_toList];simp only [h.2]
theorem adT {listed : Array Bool} {m i : Nat} (h : sK ops.size listed m) : Region.free md ops listed i = Jo md ops m i:=by
 unfold Region.free Jo;cases hi : ops[i]? with
 | none=>rfl
 | some oi =>
   simp only
   rw [adS m oi i ops.toList 0 (fun j=>j == i || listed.getD j true || match ops[j]? with
    | some oj=>oj.after.any (fun e=>Region.binds md e && e.on == i) || oi.apart ops oj
    | none=>true)]
   . rw [List.range_eq_range',Array.length_toList];rfl
   . intro j hj;rw [Array.length_toList] at hj;rw [Nat.zero_add,h.bit hj,Array.getElem?_eq_getElem hj,Array.getElem_toList];show (j == i || m.testBit j || (ops[j].after.any (fun e=>Region.binds md e && e.on == i) || oi.apart ops ops[j])) = _
     rw [<- Array.any_toList]
theorem ah7 (plan : List (Nat × Bool)) : ∀ (listed : Array Bool) (m : Nat),sK ops.size listed m -> yn md ops J plan m = true -> rQ md ops J plan listed = true:=by
 induction plan with
 | nil=>intro listed m h hok;unfold rQ;rw [Mf h];exact hok
 | cons x rest ih =>
   obtain ⟨i,b⟩:=x;intro listed m h hok;cases b with
   | true =>simp only [yn,Bool.and_eq_true] at hok;simp only [rQ,Bool.and_eq_true];rw [Mf h,adT h];exact ⟨hok.1,ih _ _ (h.set (by simpa using hok.2.1)) hok.2.2⟩
   | false =>simp only [yn,Bool.and_eq_true] at hok;simp only [rQ,Bool.and_eq_true];rw [Mf h];exact ⟨hok.1,ih _ _ (h.set (by simpa using hok.2.1)) hok.2.2⟩
theorem akB {id : Nat} {a : Act} {w : World} (S : World -> Prop) (J : Nat -> Bool) (plan : List (Nat × Bool)) (hm : P.follows .mixedOrders = true) (hs : Region.noSelect ops = true)
 (hl : plan.length = ops.size) (hok : yn .any ops J plan 0 = true)
 (hQ : ∀ (o : Oper) c a v w,Q (.panic c) (a.put o.dst v) w -> Q (.panic c) a w) (hS : S w.drew) (h : aV P ops Q S J plan a w.drew) : (Code.region id ops true).wp P Q a w:=by
 refine wp_region_any hm (Ck ops.size _ _ _ ?_ (S:=S) (J:=J))
 have:=akw (md:=.any) (S:=S) (J:=J) hs hQ plan (Array.replicate ops.size false) a w.drew (Closed.empty _) (ah7 plan _ 0 ⟨by simp,fun i=>by rw [Nat.zero_testBit,Array.getD_eq_getD_getElem?,Array.getElem?_replicate];split<;>rfl⟩ hok) (fun _=>hS) h
 rw [hl] at this;exact this
end
end Go.Proofs.YtdaadlblknpipaaGreatDoor
