/- A statement whose order is open,walked in one order: what only reads is taken first;S is asked behind each operation but the last ones (J),for which everything else waits. -/
import Derived.Test.YtdaadlblknpipaaGreatDoorZ6
import Derived.OrdersHeld
import Derived.Test.YtdaadlblknpipaaGreatDoorZ5
set_option linter.unusedVariables false
set_option linter.unusedSimpArgs false
set_option maxRecDepth 100000
set_option maxHeartbeats 16000000
namespace Go.Proofs.YtdaadlblknpipaaGreatDoor
open Go.RowKit
theorem U1 {α : Type} (l : List α) (i : Nat) (a : α) : l.toArray.setIfInBounds i a = (l.set i a).toArray:=by simp
theorem U2 {α : Type} (x : α) (l : List α) (a : α) : (x :: l).set 0 a = a :: l:=rfl
theorem U3 {α : Type} (x : α) (l : List α) (i : Nat) (a : α) : (x :: l).set (i + 1) a = x :: l.set i a:=rfl
section
variable {P : Program} {md : Region.Mode} {ops : Array Oper} {Q : Exit -> Act -> World -> Prop} {S : World -> Prop} {J : Nat -> Bool}
def pZ (P : Program) (md : Region.Mode) (ops : Array Oper) (Q : Exit -> Act -> World -> Prop) (S : World -> Prop) (J : Nat -> Bool) : Nat -> Array Bool -> Act -> World -> Prop
 | 0,listed,a,w=>Region.ready md ops listed = [] /\ Q .normal a w
 | fuel + 1,listed,a,w =>
   (Region.ready md ops listed = [] -> Q .normal a w) /\
   ∀ i ∈ Region.ready md ops listed,wpOp P ops Q i (fun a' w'=>(J i = true -> S w') /\ pZ P md ops Q S J fuel (listed.setIfInBounds i true) a' w') a w
theorem Ch (fuel : Nat) : ∀ (listed : Array Bool) (a : Act) (w : World),pZ P md ops Q S J fuel listed a w -> wpAny P md ops Q fuel listed a w:=by
 induction fuel with
 | zero=>intro _ _ _ h;exact h
 | succ n ih=>intro _ _ _ h;exact ⟨h.1,fun i hi=>wpOp_mono (fun a' w' h'=>ih _ a' w' h'.2) (h.2 i hi)⟩
def reach (md : Region.Mode) (ops : Array Oper) (i : Nat) : Nat -> Nat -> Bool
 | 0,_=>false
 | n + 1,j=>match ops[j]? with
   | some oj=>oj.after.any fun e=>Region.binds md e && (e.on == i || reach md ops i n e.on)
   | none=>false
def waits (md : Region.Mode) (ops : Array Oper) (J : Nat -> Bool) (i : Nat) : Bool:=
 (List.range ops.size).all fun j=>j == i || J j || reach md ops i ops.size j
def Closed (md : Region.Mode) (ops : Array Oper) (listed : Array Bool) : Prop:=
 ∀ (k : Nat) (ok : Oper),listed.getD k false = true -> ops[k]? = some ok -> ∀ e ∈ ok.after,Region.binds md e = true -> listed.getD e.on false = true
theorem Closed.empty (n : Nat) : Closed md ops (Array.replicate n false):=by
 intro k ok h;exfalso
 rw [Array.getD_eq_getD_getElem?,Array.getElem?_replicate] at h;split at h<;>simp at h
theorem Closed.list {listed : Array Bool} (h : Closed md ops listed) {j : Nat} (hj : j ∈ Region.ready md ops listed) : Closed md ops (listed.setIfInBounds j true):=by
 obtain ⟨Ko,oj,jT,hall⟩:=mem_ready.1 hj;have up : ∀ n,listed.getD n false = true -> (listed.setIfInBounds j true).getD n false = true:=by
  intro n hn;by_cases hjn : j = n
  . subst hjn;rcases Nat.lt_or_ge j listed.size with h' | h'
    . simp [h']
    . simp [Array.getD_eq_getD_getElem?,Array.getElem?_eq_none h'] at hn
  . rw [getD_set_ne false hjn];exact hn
 intro k ok hk hok e he hb;by_cases hjk : j = k
 . subst hjk;rw [jT] at hok;cases hok
   exact up _ (hall e he hb)
 . rw [getD_set_ne false hjk] at hk;exact up _ (h k ok hk hok e he hb)
theorem ain {listed : Array Bool} (hc : Closed md ops listed) {i : Nat} (n : Nat) : ∀ (j : Nat) (oj : Oper),ops[j]? = some oj -> (∀ e ∈ oj.after,Region.binds md e = true -> listed.getD e.on false = true) -> reach md ops i n j = true -> listed.getD i false = true:=by
 induction n with
 | zero=>intro j oj _ _ h;cases h
 | succ n ih =>
   intro j oj jT hall h;unfold reach at h;rw [jT] at h;simp only at h;rw [Array.any_eq_true] at h;obtain ⟨k,hk,h2⟩:=h;simp only [Bool.and_eq_true,Bool.or_eq_true,beq_iff_eq] at h2;have h3:=hall _ (Array.getElem_mem hk) h2.1;rcases h2.2 with h4 | h4
   . rw [<- h4];exact h3
   . cases ho : ops[oj.after[k].on]? with
     | none =>
       cases n with
       | zero=>cases h4
       | succ m=>unfold reach at h4;rw [ho] at h4;cases h4
     | some ok=>exact ih _ ok ho (hc _ ok h3 ho) h4
theorem aj5 {listed : Array Bool} (hc : Closed md ops listed) {i : Nat} (h : waits md ops J i = true) (xB : listed.getD i true = false) {j : Nat} (hj : j ∈ Region.ready md ops listed) (hne : j ≠ i) : J j = true:=by
 obtain ⟨Ko,oj,jT,hall⟩:=mem_ready.1 hj;unfold waits at h;rw [List.all_eq_true] at h;have h1:=h j (List.mem_range.2 (Array.getElem?_eq_some_iff.1 jT).1);simp only [Bool.or_eq_true,beq_iff_eq] at h1;rcases h1 with (h1 | h1) | h1
 . exact absurd h1 hne
 . exact h1
 . have h2:=ain hc _ j oj jT hall h1;rcases Nat.lt_or_ge i listed.size with h' | h'
   . simp [h'] at xB h2;rw [xB] at h2;cases h2
   . simp [Array.getD_eq_getD_getElem?,Array.getElem?_eq_none h'] at h2
theorem Cf {i : Nat} {oi : Oper} {v : Value} (hi : ops[i]? = some oi) (sZ : ∀ (j : Nat) (o : Oper) cs b,ops[j]? = some o -> o.op ≠ .select cs b)
 (hQ : ∀ c a w,Q (.panic c) (a.put oi.dst v) w -> Q (.panic c) a w) (hJ : waits md ops J i = true) (fuel : Nat) :
 ∀ (listed : Array Bool) (a : Act) (w : World),Closed md ops listed -> Region.free md ops listed i = true -> i ∈ Region.ready md ops listed -> YieldsIf P ops S oi v a -> S w ->
  pZ P md ops Q S J fuel (listed.setIfInBounds i true) (a.put oi.dst v) w -> pZ P md ops Q S J (fuel + 1) listed a w:=by
 induction fuel with
 | zero =>
   intro listed a w _ _ hr hy hS H;refine ⟨fun h=>(by rw [h] at hr;cases hr),fun j hj=>?_⟩;by_cases hji : j = i
   . subst hji;exact hy.wpOp hi hS ⟨fun _=>hS,H⟩
   . have:=ready_mono hj hji;rw [H.1] at this;cases this
 | succ n ih =>
   intro listed a w hc hf hr hy hS H;refine ⟨fun h=>(by rw [h] at hr;cases hr),fun j hj=>?_⟩;by_cases hji : j = i
   . subst hji;exact hy.wpOp hi hS ⟨fun _=>hS,H⟩
   . have h1:=H.2 j (ready_mono hj hji);obtain ⟨Ko,oj,jT,hall⟩:=mem_ready.1 hj;have xB:=(mem_ready.1 hr).1;have aeY : ∀ e ∈ oj.after,Region.binds md e = true -> e.on ≠ i:=by
      intro e he hb heq;have h2:=hall e he hb;rw [heq] at h2;rcases Nat.lt_or_ge i listed.size with h' | h'
      . simp [h'] at xB h2;rw [xB] at h2;cases h2
      . simp [Array.getElem?_eq_none h'] at h2
     have hjJ : J j = true:=aj5 hc hJ xB hj hji;have h2:=wpOp_putIf jT (Region.free_spec hi hf j oj jT hji Ko aeY) (fun cs b=>sZ i oi cs b hi) (fun cs b=>sZ j oj cs b jT) hQ hy h1;have hf' : Region.free md ops (listed.setIfInBounds j true) i = true:=by
      unfold Region.free at hf ⊢;rw [hi] at hf ⊢;simp only [List.all_eq_true] at hf ⊢;intro k hk;have:=hf k hk;simp only [Bool.or_eq_true] at this ⊢;rcases this with (h3 | h3) | h3
      . exact .inl (.inl h3)
      . refine .inl (.inr ?_);by_cases hjk : j = k
        . subst hjk;rcases Nat.lt_or_ge j listed.size with h' | h'
          . simp [h']
          . simp
        . rw [getD_set_ne true hjk];exact h3
      . exact .inr h3
     refine wpOp_mono (fun a' w' h3=>⟨h3.2.1,ih (listed.setIfInBounds j true) a' w' (hc.list hj) hf' (ready_mono hr (Ne.symm hji)) h3.1 (h3.2.1 hjJ) ?_⟩) h2;rw [Array.setIfInBounds_comm _ _ hji];exact h3.2.2
def pU (md : Region.Mode) (ops : Array Oper) (J : Nat -> Bool) : List (Nat × Bool) -> Array Bool -> Bool
 | [],listed=>(Region.ready md ops listed).isEmpty
 | (i,true) :: rest,listed=>(Region.ready md ops listed).contains i && Region.free md ops listed i && waits md ops J i && pU md ops J rest (listed.setIfInBounds i true)
 | (i,false) :: rest,listed=>Region.ready md ops listed == [i] && (J i || !rest.any (·.2)) && pU md ops J rest (listed.setIfInBounds i true)
def aU (P : Program) (ops : Array Oper) (Q : Exit -> Act -> World -> Prop) (S : World -> Prop) (J : Nat -> Bool) : List (Nat × Bool) -> Act -> World -> Prop
 | [],a,w=>Q .normal a w
 | (i,true) :: rest,a,w=>∃ o v,ops[i]? = some o /\ YieldsIf P ops S o v a /\ aU P ops Q S J rest (a.put o.dst v) w
 | (i,false) :: rest,a,w=>wpOp P ops Q i (fun a' w'=>(J i = true -> S w') /\ aU P ops Q S J rest a' w') a w
theorem Cg (hs : Region.noSelect ops = true) (hQ : ∀ (o : Oper) c a v w,Q (.panic c) (a.put o.dst v) w -> Q (.panic c) a w) (plan : List (Nat × Bool)) :
 ∀ (listed : Array Bool) (a : Act) (w : World),Closed md ops listed -> pU md ops J plan listed = true -> (plan.any (·.2) = true -> S w) -> aU P ops Q S J plan a w -> pZ P md ops Q S J plan.length listed a w:=by
 induction plan with
 | nil =>intro listed a w _ hok _ h;exact ⟨List.isEmpty_iff.1 hok,h⟩
 | cons x rest ih =>
   obtain ⟨i,b⟩:=x;intro listed a w hc hok hS h;cases b with
   | true =>simp only [pU,Bool.and_eq_true] at hok;obtain ⟨⟨⟨h1,h2⟩,h3⟩,h4⟩:=hok;obtain ⟨o,v,ho,hy,h⟩:=h;have hSw : S w:=hS zm;exact Cf ho (Region.noSelect_spec hs) (fun c a w=>hQ o c a v w) h3 rest.length listed a w hc h2 (by simpa using h1) hy hSw (ih _ _ _ (hc.list (by simpa using h1)) h4 (fun _=>hSw) h)
   | false =>
     simp only [pU,Bool.and_eq_true,beq_iff_eq] at hok;obtain ⟨⟨h1,h2⟩,h3⟩:=hok;refine ⟨fun h0=>(by rw [h1] at h0;cases h0),fun j hj=>?_⟩;rw [h1] at hj;obtain rfl : j = i:=by simpa using hj
     refine wpOp_mono (fun a' w' h4=>⟨h4.1,ih _ _ _ (hc.list (by rw [h1];exact List.mem_singleton.2 rfl)) h3 (fun qZ=>?_) h4.2⟩) h;rw [Bool.or_eq_true] at h2;rcases h2 with h2 | h2
     . exact h4.1 h2
     . rw [qZ] at h2;cases h2
theorem bG {id : Nat} {a : Act} {w : World} (S : World -> Prop) (J : Nat -> Bool) (plan : List (Nat × Bool)) (hm : P.follows .mixedOrders = true) (hs : Region.noSelect ops = true)
 (hl : plan.length = ops.size) (hok : pU .any ops J plan (Array.replicate ops.size false) = true)
 (hQ : ∀ (o : Oper) c a v w,Q (.panic c) (a.put o.dst v) w -> Q (.panic c) a w) (hS : S w.drew) (h : aU P ops Q S J plan a w.drew) : (Code.region id ops true).wp P Q a w:=by
 refine wp_region_any hm (Ch ops.size _ _ _ ?_ (S:=S) (J:=J));have:=Cg (md:=.any) (S:=S) (J:=J) hs hQ plan (Array.replicate ops.size false) a w.drew (Closed.empty _) hok (fun _=>hS) h;rw [hl] at this;exact this
theorem LW {i : Nat} {rest : List (Nat × Bool)} {o : Oper} {v : Value} {a : Act} {w : World} (ho : ops.toList[i]? = some o) (hw : Region.wanted o (yielded ops a.tmps) = true)
 (hy : ∀ w',S w' -> (execOp a.eval o).run P w' = .ok (.value v) w') (h : aU P ops Q S J rest (a.put o.dst v) w) : aU P ops Q S J ((i,true) :: rest) a w:=
 ⟨o,v,by rw [<- Array.getElem?_toList];exact ho,.inl ⟨hw,hy⟩,h⟩
theorem pT {i : Nat} {rest : List (Nat × Bool)} {o : Oper} {v : Value} {a : Act} {w : World} (ho : ops.toList[i]? = some o) (hw : Region.wanted o (yielded ops a.tmps) = true)
  (h : aU P ops Q S J rest (a.put o.dst v) w) (hy : ∀ w',S w' -> (execOp a.eval o).run P w' = .ok (.value v) w':=by (intro w' hw';go_simp;try with_reducible rfl)) : aU P ops Q S J ((i,true) :: rest) a w:=LW ho hw hy h
theorem UU : (∀ (a : Act) (d : Nat) (v : Value),a.put (some d) v = ⟨a.tmps.setIfInBounds d v,a.defers⟩) /\ (∀ (a : Act) (v : Value),a.put none v = a) /\ (∀ (α : Type) (l : List α) (i : Nat) (a : α),l.toArray.setIfInBounds i a = (l.set i a).toArray) /\ (∀ (α : Type) (x : α) (l : List α) (a : α),(x :: l).set 0 a = a :: l) /\ (∀ (α : Type) (x : α) (l : List α) (i : Nat) (a : α),(x :: l).set (i + 1) a = x :: l.set i a):=⟨fun _ _ _=>rfl,fun _ _=>rfl,fun _ l i a=>U1 l i a,fun _ _ _ _=>rfl,fun _ _ _ _ _=>rfl⟩
theorem aH {i : Nat} {rest : List (Nat × Bool)} {o : Oper} {a : Act} {w : World} (ho : ops.toList[i]? = some o) (hw : Region.wanted o (yielded ops a.tmps) = true)
 (h : ∀ K : Act -> World -> Prop,(∀ a' w',(J i = true -> S w') -> aU P ops Q S J rest a' w' -> K a' w') -> o.wp P a w K Q) : aU P ops Q S J ((i,false) :: rest) a w:=by
 show wpOp P ops Q i _ a w
 rw [Array.getElem?_toList] at ho;unfold wpOp;simp only [ho,hw,if_true];exact .inl (h _ (fun a' w' h1 h2=>⟨h1,h2⟩))
theorem bJ {plan : List (Nat × Bool)} {a : Act} {W : World} (R : World -> Prop) (hR : R W) (h : ∀ W',R W' -> aU P ops Q S J plan a W') : aU P ops Q S J plan a W:=h W hR
end
theorem aF {w : World} {p a : Addr} {u v : Value} (hne : a.block ≠ p.block \/ a.off ≠ p.off) (h : w.cell? a = some v) : (w.setCell p u).cell? a = some v:=by rw [World.cell?_setCell_other w p a u (fun e=>by subst e;rcases hne with h | h<;>exact h rfl)];exact h
section
variable {P : Program} {md : Region.Mode} {ops : Array Oper} {Q : Exit -> Act -> World -> Prop} {S : World -> Prop} {J : Nat -> Bool}
def BB (md : Region.Mode) (ops : Array Oper) (J : Nat -> Bool) (i j : Nat) (p1 p2 : List (Nat × Bool)) : List Nat -> Array Bool -> Bool
 | [],listed=>Region.ready md ops listed == [i,j] && pU md ops J p1 (listed.setIfInBounds i true) && pU md ops J p2 (listed.setIfInBounds j true)
 | x :: pre,listed=>(Region.ready md ops listed).contains x && Region.free md ops listed x && waits md ops J x && BB md ops J i j p1 p2 pre (listed.setIfInBounds x true)
def yt (P : Program) (ops : Array Oper) (Q : Exit -> Act -> World -> Prop) (S : World -> Prop) (J : Nat -> Bool) (i j : Nat) (p1 p2 : List (Nat × Bool)) : List Nat -> Act -> World -> Prop
 | [],a,w=>wpOp P ops Q i (fun a1 w1=>S w1 /\ aU P ops Q S J p1 a1 w1) a w /\ wpOp P ops Q j (fun a1 w1=>S w1 /\ aU P ops Q S J p2 a1 w1) a w
 | x :: pre,a,w=>∃ o v,ops[x]? = some o /\ YieldsIf P ops S o v a /\ yt P ops Q S J i j p1 p2 pre (a.put o.dst v) w
theorem ake (hs : Region.noSelect ops = true) (hQ : ∀ (o : Oper) c a v w,Q (.panic c) (a.put o.dst v) w -> Q (.panic c) a w) (i j : Nat) (p1 p2 : List (Nat × Bool)) (hl : p2.length = p1.length) (pre : List Nat) :
 ∀ (listed : Array Bool) (a : Act) (w : World),Closed md ops listed -> BB md ops J i j p1 p2 pre listed = true -> S w -> yt P ops Q S J i j p1 p2 pre a w -> pZ P md ops Q S J (p1.length + 1 + pre.length) listed a w:=by
 induction pre with
 | nil =>
   intro listed a w hc hok _ h;simp only [BB,Bool.and_eq_true,beq_iff_eq] at hok;obtain ⟨⟨h1,h2⟩,h3⟩:=hok;have mi : i ∈ Region.ready md ops listed:=by rw [h1];simp
   have mj : j ∈ Region.ready md ops listed:=by rw [h1];simp
   refine ⟨fun h0=>(by rw [h1] at h0;cases h0),fun k hk=>?_⟩;rw [h1] at hk;simp only [List.mem_cons,List.not_mem_nil,or_false] at hk;rcases hk with rfl | rfl
   . exact wpOp_mono (fun a1 w1 q=>⟨fun _=>q.1,Cg hs hQ p1 _ _ _ (hc.list mi) h2 (fun _=>q.1) q.2⟩) h.1
   . refine wpOp_mono (fun a1 w1 q=>⟨fun _=>q.1,?_⟩) h.2;have:=Cg hs hQ p2 _ _ _ (hc.list mj) h3 (fun _=>q.1) q.2;rw [hl] at this;exact this
 | cons x pre ih =>intro listed a w hc hok hS h;simp only [BB,Bool.and_eq_true] at hok;obtain ⟨⟨⟨h1,h2⟩,h3⟩,h4⟩:=hok;obtain ⟨o,v,ho,hy,h⟩:=h;exact Cf ho (Region.noSelect_spec hs) (fun c a w=>hQ o c a v w) h3 (p1.length + 1 + pre.length) listed a w hc h2 (by simpa using h1) hy hS (ih _ _ _ (hc.list (by simpa using h1)) h4 hS h)
theorem MS {id : Nat} {a : Act} {w : World} (S : World -> Prop) (J : Nat -> Bool) (i j : Nat) (p1 p2 : List (Nat × Bool)) (pre : List Nat) (hm : P.follows .mixedOrders = true) (hs : Region.noSelect ops = true)
 (hl : p1.length + 1 + pre.length = ops.size) (hl2 : p2.length = p1.length) (hok : BB .any ops J i j p1 p2 pre (Array.replicate ops.size false) = true)
 (hQ : ∀ (o : Oper) c a v w,Q (.panic c) (a.put o.dst v) w -> Q (.panic c) a w) (hS : S w.drew) (h : yt P ops Q S J i j p1 p2 pre a w.drew) : (Code.region id ops true).wp P Q a w:=by
 refine wp_region_any hm (Ch ops.size _ _ _ ?_ (S:=S) (J:=J));have:=ake (md:=.any) (S:=S) (J:=J) hs hQ i j p1 p2 hl2 pre (Array.replicate ops.size false) a w.drew (Closed.empty _) hok hS h;rw [hl] at this;exact this
theorem LZ {i j x : Nat} {p1 p2 : List (Nat × Bool)} {pre : List Nat} {o : Oper} {v : Value} {a : Act} {w : World} (ho : ops.toList[x]? = some o) (hw : Region.wanted o (yielded ops a.tmps) = true)
 (hy : ∀ w',S w' -> (execOp a.eval o).run P w' = .ok (.value v) w') (h : yt P ops Q S J i j p1 p2 pre (a.put o.dst v) w) : yt P ops Q S J i j p1 p2 (x :: pre) a w:=
 ⟨o,v,by rw [<- Array.getElem?_toList];exact ho,.inl ⟨hw,hy⟩,h⟩
theorem LV {i j : Nat} {p1 p2 : List (Nat × Bool)} {oi oj : Oper} {a : Act} {w : World} (hoi : ops.toList[i]? = some oi) (jT : ops.toList[j]? = some oj) (pH : Region.wanted oi (yielded ops a.tmps) = true) (tu : Region.wanted oj (yielded ops a.tmps) = true)
 (h1 : ∀ K : Act -> World -> Prop,(∀ a' w',S w' -> aU P ops Q S J p1 a' w' -> K a' w') -> oi.wp P a w K Q) (h2 : ∀ K : Act -> World -> Prop,(∀ a' w',S w' -> aU P ops Q S J p2 a' w' -> K a' w') -> oj.wp P a w K Q) : yt P ops Q S J i j p1 p2 [] a w:=by
 rw [Array.getElem?_toList] at hoi jT;refine ⟨?_,?_⟩
 . unfold wpOp;simp only [hoi,pH,if_true];exact .inl (h1 _ (fun a' w' q1 q2=>⟨q1,q2⟩))
 . unfold wpOp;simp only [jT,tu,if_true];exact .inl (h2 _ (fun a' w' q1 q2=>⟨q1,q2⟩))
end
inductive PT where
 | lin (p : List (Nat × Bool))
 | rd (x : Nat) (t : PT)
 | br (i j : Nat) (t1 t2 : PT)
 | tr (i j k : Nat) (t1 t2 t3 : PT)
def PT.size : PT -> Nat
 | .lin p=>p.length
 | .rd _ t=>t.size + 1
 | .br _ _ t1 _=>t1.size + 1
 | .tr _ _ _ t1 _ _=>t1.size + 1
section
variable {P : Program} {md : Region.Mode} {ops : Array Oper} {Q : Exit -> Act -> World -> Prop} {S : World -> Prop} {J : Nat -> Bool}
def oK (md : Region.Mode) (ops : Array Oper) (J : Nat -> Bool) : PT -> Array Bool -> Bool
 | .lin p,listed=>pU md ops J p listed
 | .rd x t,listed=>(Region.ready md ops listed).contains x && Region.free md ops listed x && waits md ops J x && oK md ops J t (listed.setIfInBounds x true)
 | .br i j t1 t2,listed=>Region.ready md ops listed == [i,j] && t1.size == t2.size && J i && J j && oK md ops J t1 (listed.setIfInBounds i true) && oK md ops J t2 (listed.setIfInBounds j true)
 | .tr i j k t1 t2 t3,listed=>Region.ready md ops listed == [i,j,k] && t1.size == t2.size && t1.size == t3.size && oK md ops J t1 (listed.setIfInBounds i true) && oK md ops J t2 (listed.setIfInBounds j true) && oK md ops J t3 (listed.setIfInBounds k true)
def kj (P : Program) (ops : Array Oper) (Q : Exit -> Act -> World -> Prop) (S : World -> Prop) (J : Nat -> Bool) : PT -> Act -> World -> Prop
 | .lin p,a,w=>aU P ops Q S J p a w
 | .rd x t,a,w=>∃ o v,ops[x]? = some o /\ YieldsIf P ops S o v a /\ kj P ops Q S J t (a.put o.dst v) w
 | .br i j t1 t2,a,w=>wpOp P ops Q i (fun a1 w1=>S w1 /\ kj P ops Q S J t1 a1 w1) a w /\ wpOp P ops Q j (fun a1 w1=>S w1 /\ kj P ops Q S J t2 a1 w1) a w
 | .tr i j k t1 t2 t3,a,w=>wpOp P ops Q i (fun a1 w1=>S w1 /\ kj P ops Q S J t1 a1 w1) a w /\ wpOp P ops Q j (fun a1 w1=>S w1 /\ kj P ops Q S J t2 a1 w1) a w /\ wpOp P ops Q k (fun a1 w1=>S w1 /\ kj P ops Q S J t3 a1 w1) a w
theorem akg (hs : Region.noSelect ops = true) (hQ : ∀ (o : Oper) c a v w,Q (.panic c) (a.put o.dst v) w -> Q (.panic c) a w) (t : PT) :
 ∀ (listed : Array Bool) (a : Act) (w : World),Closed md ops listed -> oK md ops J t listed = true -> S w -> kj P ops Q S J t a w -> pZ P md ops Q S J t.size listed a w:=by
 induction t with
 | lin p=>intro listed a w hc hok hS h;exact Cg hs hQ p _ _ _ hc hok (fun _=>hS) h
 | br i j t1 t2 ih1 ih2 =>
   intro listed a w hc hok _ h;simp only [oK,Bool.and_eq_true,beq_iff_eq] at hok;obtain ⟨⟨⟨⟨⟨h1,hsz⟩,_⟩,_⟩,h2⟩,h3⟩:=hok;have mi : i ∈ Region.ready md ops listed:=by rw [h1];simp
   have mj : j ∈ Region.ready md ops listed:=by rw [h1];simp
   refine ⟨fun h0=>(by rw [h1] at h0;cases h0),fun k hk=>?_⟩;rw [h1] at hk;simp only [List.mem_cons,List.not_mem_nil,or_false] at hk;rcases hk with rfl | rfl
   . exact wpOp_mono (fun a1 w1 q=>⟨fun _=>q.1,ih1 _ _ _ (hc.list mi) h2 q.1 q.2⟩) h.1
   . refine wpOp_mono (fun a1 w1 q=>⟨fun _=>q.1,?_⟩) h.2;have:=ih2 _ _ _ (hc.list mj) h3 q.1 q.2;rw [<- hsz] at this;exact this
 | tr i j k t1 t2 t3 ih1 ih2 ih3 =>
   intro listed a w hc hok _ h;simp only [oK,Bool.and_eq_true,beq_iff_eq] at hok;obtain ⟨⟨⟨⟨⟨h1,hs2⟩,hs3⟩,h2⟩,h3⟩,h4⟩:=hok;have mi : i ∈ Region.ready md ops listed:=by rw [h1];simp
   have mj : j ∈ Region.ready md ops listed:=by rw [h1];simp
   have mk : k ∈ Region.ready md ops listed:=by rw [h1];simp
   refine ⟨fun h0=>(by rw [h1] at h0;cases h0),fun l hl=>?_⟩;rw [h1] at hl;simp only [List.mem_cons,List.not_mem_nil,or_false] at hl;rcases hl with rfl | rfl | rfl
   . exact wpOp_mono (fun a1 w1 q=>⟨fun _=>q.1,ih1 _ _ _ (hc.list mi) h2 q.1 q.2⟩) h.1
   . refine wpOp_mono (fun a1 w1 q=>⟨fun _=>q.1,?_⟩) h.2.1;have:=ih2 _ _ _ (hc.list mj) h3 q.1 q.2;rw [<- hs2] at this;exact this
   . refine wpOp_mono (fun a1 w1 q=>⟨fun _=>q.1,?_⟩) h.2.2;have:=ih3 _ _ _ (hc.list mk) h4 q.1 q.2;rw [<- hs3] at this;exact this
 | rd x t ih =>intro listed a w hc hok hS h;simp only [oK,Bool.and_eq_true] at hok;obtain ⟨⟨⟨h1,h2⟩,h3⟩,h4⟩:=hok;obtain ⟨o,v,ho,hy,h⟩:=h;exact Cf ho (Region.noSelect_spec hs) (fun c a w=>hQ o c a v w) h3 t.size listed a w hc h2 (by simpa using h1) hy hS (ih _ _ _ (hc.list (by simpa using h1)) h4 hS h)
theorem MU {id : Nat} {a : Act} {w : World} (S : World -> Prop) (J : Nat -> Bool) (t : PT) (hm : P.follows .mixedOrders = true) (hs : Region.noSelect ops = true)
 (hl : t.size = ops.size) (hok : oK .any ops J t (Array.replicate ops.size false) = true)
 (hQ : ∀ (o : Oper) c a v w,Q (.panic c) (a.put o.dst v) w -> Q (.panic c) a w) (hS : S w.drew) (h : kj P ops Q S J t a w.drew) : (Code.region id ops true).wp P Q a w:=by
 refine wp_region_any hm (Ch ops.size _ _ _ ?_ (S:=S) (J:=J));have:=akg (md:=.any) (S:=S) (J:=J) hs hQ t (Array.replicate ops.size false) a w.drew (Closed.empty _) hok hS h;rw [hl] at this;exact this
theorem VE {x : Nat} {t : PT} {o : Oper} {v : Value} {a : Act} {w : World} (ho : ops.toList[x]? = some o) (hw : Region.wanted o (yielded ops a.tmps) = true)
 (hy : ∀ w',S w' -> (execOp a.eval o).run P w' = .ok (.value v) w') (h : kj P ops Q S J t (a.put o.dst v) w) : kj P ops Q S J (.rd x t) a w:=
 ⟨o,v,by rw [<- Array.getElem?_toList];exact ho,.inl ⟨hw,hy⟩,h⟩
theorem Fp {i j : Nat} {t1 t2 : PT} {oi oj : Oper} {a : Act} {w : World} (hJi : J i = true) (hJj : J j = true) (hoi : ops.toList[i]? = some oi) (jT : ops.toList[j]? = some oj) (pH : Region.wanted oi (yielded ops a.tmps) = true) (tu : Region.wanted oj (yielded ops a.tmps) = true)
 (h1 : ∀ K : Act -> World -> Prop,(∀ a' w',(J i = true -> S w') -> kj P ops Q S J t1 a' w' -> K a' w') -> oi.wp P a w K Q) (h2 : ∀ K : Act -> World -> Prop,(∀ a' w',(J j = true -> S w') -> kj P ops Q S J t2 a' w' -> K a' w') -> oj.wp P a w K Q) : kj P ops Q S J (.br i j t1 t2) a w:=by
 rw [Array.getElem?_toList] at hoi jT;refine ⟨?_,?_⟩
 . unfold wpOp;simp only [hoi,pH,if_true];exact .inl (h1 _ (fun a' w' q1 q2=>⟨q1 hJi,q2⟩))
 . unfold wpOp;simp only [jT,tu,if_true];exact .inl (h2 _ (fun a' w' q1 q2=>⟨q1 hJj,q2⟩))
theorem VF {t : PT} {a : Act} {W : World} (R : World -> Prop) (hR : R W) (h : ∀ W',R W' -> kj P ops Q S J t a W') : kj P ops Q S J t a W:=h W hR
theorem vV {p : List (Nat × Bool)} {a : Act} {w : World} (h : aU P ops Q S J p a w) : kj P ops Q S J (.lin p) a w:=h
end
def ib (cs : List (Addr × Value)) (w : World) : Prop:=∀ p ∈ cs,w.cell? p.1 = some p.2
theorem ib.below {cs : List (Addr × Value)} {w w' : World} (h : ib cs w) (hb : Bw w w') : ib cs w':=fun p hp=>cell_later hb (h p hp)
theorem ib.hd {p : Addr × Value} {cs : List (Addr × Value)} {w : World} (h : ib (p :: cs) w) : w.cell? p.1 = some p.2:=h p zm
theorem ib.tl {p : Addr × Value} {cs : List (Addr × Value)} {w : World} (h : ib (p :: cs) w) : ib cs w:=fun q hq=>h q (by simp [hq])
theorem ib.alloc {cs : List (Addr × Value)} {w : World} (h : ib cs w) (o : Obj) : ib cs (w.alloc o):=h.below zl
theorem ib.drew {cs : List (Addr × Value)} {w : World} (h : ib cs w) : ib cs w.drew:=h
theorem aX {P : Program} {ops : Array Oper} {Q : Exit -> Act -> World -> Prop} {S : World -> Prop} {J : Nat -> Bool} {i : Nat} {rest : List (Nat × Bool)} {o : Oper} {a : Act} {w : World} (ho : ops.toList[i]? = some o) (hw : Region.wanted o (yielded ops a.tmps) = false)
 (h : aU P ops Q S J rest (a.put o.dst undef) w) : aU P ops Q S J ((i,true) :: rest) a w:=
 ⟨o,undef,by rw [<- Array.getElem?_toList];exact ho,.inr ⟨hw,rfl⟩,h⟩
theorem Fl {P : Program} {ops : Array Oper} {Q : Exit -> Act -> World -> Prop} {S : World -> Prop} {J : Nat -> Bool} {i : Nat} {rest : List (Nat × Bool)} {o : Oper} {a : Act} {w : World} (ho : ops.toList[i]? = some o) (hw : Region.wanted o (yielded ops a.tmps) = false)
 (hS : J i = true -> S w) (h : aU P ops Q S J rest (a.put o.dst undef) w) : aU P ops Q S J ((i,false) :: rest) a w:=by
 show wpOp P ops Q i _ a w
 rw [Array.getElem?_toList] at ho;unfold wpOp;simp only [ho,hw];exact ⟨hS,h⟩
def ic (A w : World) : Prop:=Bw A w
theorem ic.below {A w w' : World} (h : ic A w) (hb : Bw w w') : ic A w':=aI h hb
theorem ic.alloc {A w : World} (h : ic A w) (o : Obj) : ic A (w.alloc o):=h.below zl
theorem ic.drew {A w : World} (h : ic A w) : ic A w.drew:=Below.drew h
theorem IK {a b : Nat} (h : b < a) : cG a b = 1:=by unfold cG;rw [if_neg zo,if_pos h]
theorem IL {a b : Nat} (h : a <= b) : cG a b <= 0:=by unfold cG;split;decide;rw [if_neg zo];decide
theorem aap (n : Nat) : WW ^ (n + 1) = WW ^ n * WW:=Nat.pow_succ _ _
theorem vN {By q n : Nat} (hB : By < WW ^ n) (hq : q < WW) : By * q < WW ^ (n + 1):=by
 rw [aap];rcases Nat.eq_zero_or_pos q with h | h
 . subst h;rw [Nat.mul_zero];exact Nat.mul_pos (dw n) ij
 . exact Nat.mul_lt_mul'' hB hq
theorem Uw (a : Option Addr) (L fx b2 o2 n cap2 By pb po pS P q : Nat) (w : World) (hn : n <= 1099511627774) (uV : n <= cap2) (hpc : n + 1 <= pS) (hy : di w b2 o2 n By) (hB : By < WW ^ n) (QG : 0 < By)
 (hp : di w pb po (n + 1) P) (hP : P < WW ^ (n + 1)) (hq : P / By < q) (hqW : q < WW) :
 Calls Tryz.prog 189 #[.agg #[.slice a L fx,.slice (some ⟨b2,o2,none⟩) n cap2],.slice (some ⟨pb,po,none⟩) (n + 1) pS,.int .u64 (q : Int)] w fun e w'=>∃ mb,
  e = .returned (.tuple #[.int .u64 ((P / By : Nat) : Int),.slice (some ⟨mb,0,none⟩) (n + 1) (n + 1)]) /\ (ai w' mb 142 (bz (n + 1) (dg (By * (P / By)))) /\ w.heap.size <= mb) /\ Bw w w':=by
 have Hy:=ah hy;have HB:=ah hB;have Ni:=ah QG;have Hp:=ah hp;have HP:=ah hP;obtain ⟨D,hD⟩ : ∃ D,P / By = D:=⟨_,rfl⟩;have HD:=ah hD;rw [hD] at hq ⊢;rw [ig] at hqW;have UJ : pb < w.heap.size:=World.block_lt_of_cell? w _ (hp 0 zo);have iH : 0 < n -> b2 < w.heap.size:=fun h=>World.block_lt_of_cell? w _ (hy 0 h);have hn0 : 0 < n:=by
  rcases Nat.eq_zero_or_pos n with h | h
  . subst h;simp at hB;omega
  . exact h
 have Lpb:=ah UJ;have Lb2:=ah (iH hn0);clear hy hB QG hp hP hD UJ iH;have hmk:=vL ((n : Int) + 1) (n + 1) zo zo;obtain ⟨W,aK⟩ : ∃ W,(w.alloc (.cells #[.slice a L fx,.slice (some ⟨b2,o2,none⟩) n cap2] 198)) = W:=⟨_,rfl⟩;have Hb : Hid (Bw w W):=by rw [<- aK];exact zl
 have Hx : Hid (ai W (w.heap.size) 198 [.slice a L fx,.slice (some ⟨b2,o2,none⟩) n cap2]):=by rw [<- aK];exact ai.newAt _ _ _ zm
 obtain ⟨x0,x1⟩:=Hx.out.c2;go_enter Tryz.func189,Tryz.ntmps189;go_wp2_with fail;go_loopw [2,8] (fun qv _ wr=>∃ k : Nat,D < k /\ k <= q /\ qv = .int .u64 (k : Int) /\ ai wr w.heap.size 198 [.slice a L fx,.slice (some ⟨b2,o2,none⟩) n cap2] /\ Bw w wr) (fun qv _ _=>(intOf qv).toNat);case atStart=>exact ⟨q,hq,Nat.le_refl _,rfl,Hx.out,Hb.out⟩
 case round=>
  clear x0 x1 Hx Hb;obtain ⟨k,hk1,hk2,rfl,px,VB⟩:=hrel;have Hx:=ah px;have Hb:=ah VB;clear px VB;obtain ⟨m,rfl⟩ : ∃ m,k = m + 1:=⟨k - 1,by omega⟩;have hm : IntKind.u64.wrap (((m + 1 : Nat) : Int) - 1) = (m : Int):=by rw [IntKind.wrap_u64];omega
  obtain ⟨x0,x1⟩:=Hx.out.c2;have Ta : m < WW:=by rw [ig];omega
  have Ow:=ah Ta;clear Ta;have lx:=Hx.out.lt;have sz:=Hb.out.size;obtain ⟨W2,hW2⟩ : ∃ W2,wr.alloc (.cells (bz (n + 1) fun _=>0).toArray 142) = W2:=⟨_,rfl⟩;have hb2 : Bw wr W2:=by rw [<- hW2];exact zl
  have eJ : Hid (ai W2 wr.heap.size 142 (bz (n + 1) fun _=>0)):=by rw [<- hW2];exact ai.new _ _ _
  replace Hx:=ah (Hx.out.below hb2);have fU:=ah (aI Hb.out hb2);have Wa : W2.heap.size = wr.heap.size + 1:=by rw [<- hW2];simp
  have akR:=ah Wa;clear Wa hb2;obtain ⟨y0,y1⟩:=Hx.out.c2;go_wp2_with fail;refine (ER wr.heap.size (n + 1) 0 (n + 1) (n + 1) (fun _=>0) 0 b2 o2 n cap2 By m W2 zo zo eJ.out zo (fun j _=>by unfold dg;rw [Nat.zero_div];rfl) (Hy.out.below fU.out) HB.out (by have:=Lb2.out;omega) Ow.out).mono ?_;rintro e w3 ⟨rfl,qB,qg⟩
  have eB : bz (n + 1) (ft (fun _=>0) 0 (n + 1) (dg (0 + By * m))) = bz (n + 1) (dg (By * m)):=iJ (fun j hj=>by
   have:=Bu (fun _=>0) 0 (n + 1) (dg (0 + By * m)) j hj
   simpa only [Nat.zero_add] using this)
  rw [eB] at qB;have iM:=ah qB;have Oc:=ah qg;have nZ:=vN HB.out Ow.out;have sS:=gL nZ;have yA:=ah nZ;have se:=ah (Hx.out.grown qg (fun h=>by have:=Option.some.inj h;omega));have mE : Hid (di w3 pb po (n + 1) P):=(Hp.out.below fU.out).grown qg (fun h=>by have:=Option.some.inj h;have:=Lpb.out;omega);have dA:=ah (fU.out.grown qg (by have:=fU.out.size;omega) (fun j e=>by have:=Option.some.inj e;omega));clear qB qg eB nZ x0 x1 y0 y1;obtain ⟨x0,x1⟩:=se.out.c2;go_wp2_with fail;refine (jo wr.heap.size 0 (n + 1) (n + 1) (By * m) w3 zo (Nat.le_refl _) (iM.out.lim _ (Nat.le_refl _)) yA.out).mono ?_;rintro e w4 ⟨rfl,rfl⟩;go_wp2_with fail;refine (vI wr.heap.size 0 (ln (By * m)) (n + 1) (By * m) pb po (n + 1) pS P w3 zo sS (iM.out.lim _ sS) (dP _) zo hpc mE.out HP.out).mono ?_;rintro e w5 ⟨rfl,dc⟩;have eW:=ah dc;have wP:=ah (se.out.below dc);have ko:=ah (iM.out.below dc);clear dc x0 x1;obtain ⟨x0,x1⟩:=wP.out.c2;have kE:=Nat.div_add_mod P By;have vg:=Nat.mod_lt P Ni.out;rw [HD.out] at kE;by_cases hle : By * m <= P
  . have hmD : D = m:=by
     have h1 : m <= D:=by rw [<- HD.out];exact (Nat.le_div_iff_mul_le Ni.out).2 (by rw [Nat.mul_comm];exact hle)
     omega
    subst hmD;have jR:=IL hle;clear kE vg hle;generalize cG (By * D) P = c at *;go_wp2;refine bodyPost_ret (v:=.tuple #[.int .u64 (D : Int),.slice (some ⟨wr.heap.size,0,none⟩) (n + 1) (n + 1)]) (by simp [results,Tryz.results189,go_sem]) rfl ⟨wr.heap.size,rfl,⟨ko.out,sz⟩,aI dA.out eW.out⟩
  . have hlt : D < m:=by
     rcases Nat.lt_or_ge D m with h | h
     . exact h
     . exact absurd (Nat.le_trans (Nat.mul_le_mul_left By h) zo) hle
    have jR:=IK (a:=By * m) (b:=P) zo;clear kE vg;rw [jR];go_wp2;go_roundw;case rel=>exact ⟨m,hlt,by omega,by go_num,wP.out,aI dA.out eW.out⟩
    case measure=>simp [intOf]
theorem _root_.Go.RowKit.Below.thenGrown {w a c : World} {b : Nat} (h : Bw w a) (k : a.grownBy c (some b)) : w.grownBy c (some b):=
 ⟨k.os.trans h.os,k.tape.trans h.tape,k.output.trans h.output,Nat.le_trans h.size k.size,fun i hi hn=>(k.block i (Nat.lt_of_lt_of_le hi h.size) hn).trans (h.block i hi)⟩
def Wn (w : World) (b o : Nat) (cs : List Value) : Prop:=∀ j (h : j < cs.length),w.cell? ⟨b,o + j,none⟩ = some cs[j]
theorem Wn.cell {w : World} {b o : Nat} {cs : List Value} (h : Wn w b o cs) (j : Nat) (hj : j < cs.length) : w.cell? ⟨b,o + j,none⟩ = some cs[j]:=h j hj
theorem Wn.below {w w' : World} {b o : Nat} {cs : List Value} (h : Wn w b o cs) (hb : Bw w w') : Wn w' b o cs:=fun j hj=>cell_later hb (h j hj)
theorem acP (h lo y : Nat) (w : World) (hy1 : 9223372036854775808 <= y) (hy : y < WW) (hh : h < y) (hl : lo < WW) :
 Calls Tryz.prog 188 #[.int .u64 (h : Int),.int .u64 (lo : Int),.int .u64 (y : Int)] w fun e w'=>(∃ r,e = .returned (.tuple #[.int .u64 (((h * WW + lo) / y : Nat) : Int),.int .u64 r])) /\ Bw w w':=by
 rcases Nat.eq_zero_or_pos h with h0 | h0
 . subst h0;refine (acR lo y w zo hy hl).mono ?_;rintro e w' ⟨r,rfl,hb⟩;refine ⟨⟨r,?_⟩,hb⟩;rw [Nat.zero_mul,Nat.zero_add]
 . refine (acQ h lo y w hy1 hy hh hl h0).mono ?_;rintro e w' ⟨r,he,hb⟩;exact ⟨⟨r,he⟩,hb⟩
theorem take_at {R By at' n : Nat} (hR : R < WW ^ (at' + n + 1)) (j : Nat) :
 ft (dg R) at' (n + 1) (dg (R / WW ^ at' - By * (R / WW ^ at' / By))) j = dg (R - By * (R / WW ^ at' / By) * WW ^ at') j:=by
 obtain ⟨P,hP⟩ : ∃ P,R / WW ^ at' = P:=⟨_,rfl⟩;obtain ⟨lo,hlo⟩ : ∃ lo,R % WW ^ at' = lo:=⟨_,rfl⟩;obtain ⟨S,hS⟩ : ∃ S,By * (P / By) = S:=⟨_,rfl⟩;have hl : lo < WW ^ at':=by rw [<- hlo];exact Nat.mod_lt _ (dw _)
 have e:=Nat.div_add_mod R (WW ^ at');rw [hP,hlo] at e;have hSP : S <= P:=by rw [<- hS];exact Nat.mul_div_le _ _
 have hPn : P < WW ^ (n + 1):=by rw [<- hP];refine Nat.div_lt_of_lt_mul ?_;rw [<- Nat.pow_add];exact hR
 rw [hP,hS];have e1 : R = P * WW ^ at' + lo:=by rw [<- e,Nat.mul_comm]
 have e2 : R - S * WW ^ at' = (P - S) * WW ^ at' + lo:=by have : S * WW ^ at' <= P * WW ^ at':=Nat.mul_le_mul_right _ hSP;rw [e1,Nat.sub_mul];omega
 rw [e2,Qc _ _ _ _ hl];unfold ft;by_cases h1 : j < at'
 . rw [if_neg zo,if_pos h1,e1,Qc _ _ _ _ hl,if_pos h1]
 . rw [if_neg h1];by_cases h2 : j < at' + (n + 1)
   . rw [if_pos zo]
   . rw [if_neg zo,pg (k:=at' + n + 1) hR zo,pg (k:=n + 1) (Nat.lt_of_le_of_lt (Nat.sub_le _ _) hPn) zo]
theorem acO (b L fx R b2 o2 n cap2 By at' : Nat) (w : World) (hL : L <= 1099511627775) (hLc : L <= fx) (hn : 0 < n) (uV : n <= cap2) (hB : ai w b 142 (bz L (dg R))) (hy : di w b2 o2 n By) (DU : By < WW ^ n) (htop : 9223372036854775808 <= dg By (n - 1))
 (hR : R < By * WW ^ (at' + 1)) (hat : at' + n + 1 <= L) (hne : b2 ≠ b) :
 Calls Tryz.prog 178 #[.agg #[.slice (some ⟨b,0,none⟩) L fx,.slice (some ⟨b2,o2,none⟩) n cap2],.int .i64 (at' : Int)] w fun e w'=>
  e = .returned (.int .u64 ((R / WW ^ at' / By : Nat) : Int)) /\ ai w' b 142 (bz L (dg (R - By * (R / WW ^ at' / By) * WW ^ at'))) /\ w.grownBy w' (some b):=by
 have QH : 0 < By:=by
  rcases Nat.eq_zero_or_pos By with h | h
  . subst h;unfold dg at htop;simp at htop
  . exact h
 have JH : R < WW ^ (at' + n + 1):=by refine Nat.lt_of_lt_of_le hR ?_;rw [show WW ^ (at' + n + 1) = WW ^ n * WW ^ (at' + 1) by rw [<- Nat.pow_add];congr 1;omega];exact Nat.mul_le_mul_right _ (Nat.le_of_lt DU)
 have htake:=fun j=>take_at (R:=R) (By:=By) (at':=at') (n:=n) JH j;obtain ⟨P,hP⟩ : ∃ P,R / WW ^ at' = P:=⟨_,rfl⟩;have Re : P < By * WW:=by rw [<- hP];refine Nat.div_lt_of_lt_mul ?_;rw [<- Nat.mul_assoc,Nat.mul_comm _ By,Nat.mul_assoc,Nat.mul_comm (WW ^ at'),<- Nat.pow_succ'];exact hR
 have Rf : P < WW ^ (n + 1):=by rw [<- hP];refine Nat.div_lt_of_lt_mul ?_;rw [<- Nat.pow_add];exact JH
 have Aj : ∀ j,dg P j = dg R (at' + j):=fun j=>by rw [<- hP];exact Ds R at' j
 obtain ⟨G,hG⟩ : ∃ G,(if dg P n < dg By (n - 1) then (dg P n * WW + dg P (n - 1)) / dg By (n - 1) else WW - 1) = G:=⟨_,rfl⟩;have hge:=adU (P:=P) (by':=By) hn Re zo DU;rw [hG] at hge;have JZ:=ik By (n - 1);have JL:=ik P (n - 1);obtain ⟨top,KS⟩ : ∃ top,dg P n = top:=⟨_,rfl⟩;obtain ⟨T0,hT0⟩ : ∃ T0,dg P (n - 1) = T0:=⟨_,rfl⟩;obtain ⟨b1,hb1⟩ : ∃ b1,dg By (n - 1) = b1:=⟨_,rfl⟩;rw [KS,hT0,hb1] at hG;rw [hb1] at htop JZ;rw [hT0] at JL;have hlb:=hB.lt;have aeS : b2 < w.heap.size:=World.block_lt_of_cell? w _ (hy 0 hn);have IP : w.cell? ⟨b,at' + n,none⟩ = some (.int .u64 (top : Int)):=by rw [hB.cell,fB _ _ _ zo,<- KS,Aj]
 have IG : w.cell? ⟨b,at' + n - 1,none⟩ = some (.int .u64 (T0 : Int)):=by rw [hB.cell,fB _ _ _ zo,<- hT0,Aj];congr 4;omega
 have IH : w.cell? ⟨b2,o2 + (n - 1),none⟩ = some (.int .u64 (b1 : Int)):=by rw [<- hb1];exact hy _ zo
 have AV : di w b at' (n + 1) P:=fun j hj=>by rw [hB.cell,fB _ _ _ zo,Aj]
 have i1:=Bg L fx (at' + n) ((at' : Int) + (n : Int)) (rfl : (some ⟨b,0,none⟩ : Option Addr) = _) zo zo;have i2:=Bg L fx (at' + n - 1) ((at' : Int) + (n : Int) - 1) (rfl : (some ⟨b,0,none⟩ : Option Addr) = _) zo zo;have i3:=Bg n cap2 (n - 1) ((n : Int) - 1) (rfl : (some ⟨b2,o2,none⟩ : Option Addr) = _) zo zo;rw [Nat.mul_one,Nat.zero_add] at i1 i2;rw [Nat.mul_one] at i3;have hsl : at' + n + 1 - at' = n + 1:=by omega
 have hmk:=vL ((n : Int) + 1) (n + 1) zo zo;have NM:=ah hB;have Hy:=ah hy;have oP:=ah DU;have Cm:=ah QH;have rP:=ah Rf;have HP:=ah hP;have Og:=ah hge;have Nq:=ah hG;have CP:=ah htake;have CL:=ah AV;have Hne:=ah hne;have Cq:=ah Aj;have zD:=ah htop;have XO:=ah JZ;have ND:=ah JL;obtain ⟨D,hD⟩ : ∃ D,P / By = D:=⟨_,rfl⟩;have HD:=ah hD;rw [hP,hD];rw [hD] at hge;have Gk : Hid (Wn w b (at' + n) [.int .u64 (top : Int)]):=fun j hj=>by
  obtain rfl : j = 0:=by simp at hj;omega
  exact IP
 have uq : Hid (Wn w b (at' + n - 1) [.int .u64 (T0 : Int)]):=fun j hj=>by
  obtain rfl : j = 0:=by simp at hj;omega
  exact IG
 have ut : Hid (Wn w b2 (o2 + (n - 1)) [.int .u64 (b1 : Int)]):=fun j hj=>by
  obtain rfl : j = 0:=by simp at hj;omega
  exact IH
 clear hB hy DU QH Rf hP hge hG htake AV hne htop JZ JL hD Re Aj JH hR KS hT0 hb1 IP IG IH;obtain ⟨W,aK⟩ : ∃ W,(w.alloc (.cells #[.slice (some ⟨b,0,none⟩) L fx,.slice (some ⟨b2,o2,none⟩) n cap2] 198)) = W:=⟨_,rfl⟩;have Hb : Hid (Bw w W):=by rw [<- aK];exact zl
 have Hx : Hid (ai W (w.heap.size) 198 [.slice (some ⟨b,0,none⟩) L fx,.slice (some ⟨b2,o2,none⟩) n cap2]):=by rw [<- aK];exact ai.newAt _ _ _ zm
 obtain ⟨x0,x1⟩:=Hx.out.c2;replace Gk:=ah (Gk.out.below Hb.out);replace uq:=ah (uq.out.below Hb.out);replace ut:=ah (ut.out.below Hb.out);have IP : W.cell? ⟨b,at' + n,none⟩ = some (.int .u64 (top : Int)):=Gk.out.cell 0 zm;have IG : W.cell? ⟨b,at' + n - 1,none⟩ = some (.int .u64 (T0 : Int)):=uq.out.cell 0 zm;have IH : W.cell? ⟨b2,o2 + (n - 1),none⟩ = some (.int .u64 (b1 : Int)):=ut.out.cell 0 zm;go_enter Tryz.func178,Tryz.ntmps178;by_cases hlt : top < b1
 . have bi : (top : Int) < (b1 : Int):=by omega
   have xz:=fun W=>acP top T0 b1 W zD.out XO.out hlt ND.out;have sF:=Nq.out;rw [if_pos hlt] at sF;rw [sF] at xz;have lI : Hid (G < WW):=by
    show _ < _
    rw [<- sF];refine Nat.div_lt_of_lt_mul ?_;have h1:=ND.out;have h2 : (top + 1) * WW <= b1 * WW:=Nat.mul_le_mul_right _ hlt;rw [Nat.add_mul,Nat.one_mul] at h2;omega
   have wH:=ah xz;clear xz sF;go_wp2_with fail;have k1 : IntKind.i64.wrap ((at' : Int) + (n : Int)) = (at' : Int) + (n : Int):=by rw [IntKind.wrap_i64];omega
   have k2 : IntKind.i64.wrap ((at' : Int) + (n : Int) - 1) = (at' : Int) + (n : Int) - 1:=by rw [IntKind.wrap_i64];omega
   have k3 : IntKind.i64.wrap ((n : Int) - 1) = (n : Int) - 1:=by rw [IntKind.wrap_i64];omega
   obtain ⟨x0,x1⟩:=Hx.out.c2;have Dl : W.cell? ⟨b,at' + n - 1,none⟩ = some (.int .u64 (T0 : Int)):=uq.out.cell 0 zm;have Dm : W.cell? ⟨b2,o2 + (n - 1),none⟩ = some (.int .u64 (b1 : Int)):=ut.out.cell 0 zm;refine bG (fun w'=>w'.cell? ⟨w.heap.size,0,none⟩ = some (.slice (some ⟨b,0,none⟩) L fx) /\ w'.cell? ⟨w.heap.size,1,none⟩ = some (.slice (some ⟨b2,o2,none⟩) n cap2) /\ w'.cell? ⟨b,at' + n - 1,none⟩ = some (.int .u64 (T0 : Int)) /\ w'.cell? ⟨b2,o2 + (n - 1),none⟩ = some (.int .u64 (b1 : Int))) (fun i=>Nat.blt i 100000) [(0,true),(1,true),(2,true),(3,true),(4,true),(5,true),(6,true),(7,true),(8,true),(9,true),(10,true),(11,true),(12,true),(13,true),(14,true),(15,false),(16,true),(17,true),(18,true),(19,true)] zk zk rfl zk zc ⟨x0,x1,Dl,Dm⟩ ?_;iterate 15 (refine pT rfl rfl ?_ (by intro w' ⟨q0,q1,q2,q3⟩;go_simp;try with_reducible rfl);try simp only [UU])
   refine aH rfl rfl (fun K hK=>?_);go_simp;with_reducible refine (wH.out _).mono ?_
   rintro e w1 ⟨⟨r,rfl⟩,hq⟩;have ae : Bw W w1:=by first | exact hq | exact aM hq
   clear x0 x1 Dl Dm;replace Hx:=kB Hx ae;replace uq:=ah (uq.out.below ae);replace ut:=ah (ut.out.below ae);obtain ⟨x0,x1⟩:=Hx.out.c2;have Dl : w1.cell? ⟨b,at' + n - 1,none⟩ = some (.int .u64 (T0 : Int)):=uq.out.cell 0 zm;have Dm : w1.cell? ⟨b2,o2 + (n - 1),none⟩ = some (.int .u64 (b1 : Int)):=ut.out.cell 0 zm;replace Hb:=au Hb ae;clear ae;refine hK _ _ (fun _=>⟨x0,x1,Dl,Dm⟩) ?_;clear hK K;try simp only [UU]
   iterate 4 (refine pT rfl rfl ?_;try simp only [UU])
   simp only [aU];have MD:=Hb.out.size;have lx:=Hx.out.lt;obtain ⟨W2,hW2⟩ : ∃ W2,w1.alloc (.cells (bz (n + 1) fun _=>0).toArray 142) = W2:=⟨_,rfl⟩;have hb2 : Bw w1 W2:=by rw [<- hW2];exact zl
   have eJ : Hid (ai W2 w1.heap.size 142 (bz (n + 1) fun _=>0)):=by rw [<- hW2];exact ai.new _ _ _
   have fU:=ah (aI Hb.out hb2);have nM:=ah (Hx.out.below hb2);clear hb2;obtain ⟨y0,y1⟩:=nM.out.c2;go_wp2_with fail;refine (ER w1.heap.size (n + 1) 0 (n + 1) (n + 1) (fun _=>0) 0 b2 o2 n cap2 By G W2 zo zo eJ.out zo (fun j _=>by unfold dg;rw [Nat.zero_div];rfl) (Hy.out.below fU.out) oP.out zo lI.out).mono ?_;rintro e w3 ⟨rfl,qB,qg⟩
   have eB : bz (n + 1) (ft (fun _=>0) 0 (n + 1) (dg (0 + By * G))) = bz (n + 1) (dg (By * G)):=iJ (fun j hj=>by
    have:=Bu (fun _=>0) 0 (n + 1) (dg (0 + By * G)) j hj
    simpa only [Nat.zero_add] using this)
   rw [eB] at qB;have iM:=ah qB;have nZ:=vN oP.out lI.out;have sS:=gL nZ;have yA:=ah nZ;have se:=ah (nM.out.grown qg (fun h=>by have:=Option.some.inj h;omega));have mE : Hid (di w3 b at' (n + 1) P):=(CL.out.below fU.out).grown qg (fun h=>by have:=Option.some.inj h;omega);have Gf:=ah ((NM.out.below fU.out).grown qg (fun h=>by have:=Option.some.inj h;omega));have dA:=ah (fU.out.grown qg (by have:=fU.out.size;omega) (fun j e=>by have:=Option.some.inj e;omega));clear qB qg eB nZ x0 x1 y0 y1;obtain ⟨x0,x1⟩:=se.out.c2;go_wp2_with fail;refine (jo w1.heap.size 0 (n + 1) (n + 1) (By * G) w3 zo (Nat.le_refl _) (iM.out.lim _ (Nat.le_refl _)) yA.out).mono ?_;rintro e w4 ⟨rfl,rfl⟩;go_wp2_with fail;refine (vI w1.heap.size 0 (ln (By * G)) (n + 1) (By * G) b at' (n + 1) (fx - at') P w3 zo sS (iM.out.lim _ sS) (dP _) zo zo mE.out rP.out).mono ?_;rintro e w5 ⟨rfl,dc⟩;have eW:=ah dc;have wP:=ah (se.out.below dc);have qj:=ah (iM.out.below dc);have kq:=ah (Gf.out.below dc);have lH:=ah (aI dA.out eW.out);clear dc x0 x1;obtain ⟨x0,x1⟩:=wP.out.c2;by_cases hle : By * G <= P
   . have Ad : D = G:=by
      have h1 : G <= D:=by rw [<- HD.out];exact (Nat.le_div_iff_mul_le Cm.out).2 (by rw [Nat.mul_comm];exact hle)
      have h2:=Og.out;rw [HD.out] at h2;omega
     have uh:=ah Ad;have jR:=IL hle;have GD:=ah hle;clear Ad hle;obtain ⟨c,hc⟩ : ∃ c,cG (By * G) P = c:=⟨_,rfl⟩;rw [hc] at jR;rw [hc];clear hc;have aeC : ¬ 0 < c:=by omega
     go_wp2_with fail;refine (Bl b L at' (n + 1) (fx - at') (dg R) P w1.heap.size 0 (n + 1) (n + 1) (By * G) w5 zo zo kq.out zo (fun j _=>(Cq.out j).symm) (qj.out.lim _ (Nat.le_refl _)) (vN oP.out (by first | exact lI.out | exact yu.out)) ZS GD.out rP.out).mono ?_;rintro e w6 ⟨rfl,kM,oL⟩
     have nR : bz L (ft (dg R) at' (n + 1) (dg (P - By * G))) = bz L (dg (R - By * G * WW ^ at')):=iJ (fun j _=>by
      have h:=CP.out j;rw [HP.out,HD.out,uh.out] at h
      exact h)
     rw [nR] at kM;have kP:=ah kM;have qF:=ah oL;clear kM oL nR;go_wp2;refine bodyPost_ret (v:=.int .u64 (D : Int)) (by have hh:=uh.out;simp [results,Tryz.results178,go_sem,hh]) rfl ⟨rfl,by rw [uh.out];exact kP.out,Below.thenGrown lH.out qF.out⟩
   . have jR:=IK (a:=By * G) (b:=P) zo;have hDl : P / By < G:=by
      rcases Nat.lt_or_ge (P / By) G with h | h
      . exact h
      . exact absurd (Nat.le_trans (Nat.mul_le_mul_left By h) (Nat.mul_div_le _ _)) hle
     have yw:=ah hDl;have yu : Hid (D < WW):=by have h1:=lI.out;have h2:=yw.out;rw [HD.out] at h2;exact Nat.lt_trans h2 h1
     clear hDl hle;rw [jR];clear jR;go_wp2_with fail;refine (Uw (some ⟨b,0,none⟩) L fx b2 o2 n cap2 By b at' (fx - at') P G w5 zo uV zo (Hy.out.below lH.out) oP.out Cm.out (mE.out.below eW.out) rP.out yw.out lI.out).mono ?_;rintro e w7 ⟨mb,rfl,⟨qM,lmb⟩,qb⟩;have FA:=lH.out.size;replace qj:=ah qM;replace kq:=ah (kq.out.below qb);replace lH:=ah (aI lH.out qb);rw [HD.out] at qj;rw [HD.out];have MC:=kq.out.lt;clear qM qb x0 x1;go_wp2_with fail;refine (Bl b L at' (n + 1) (fx - at') (dg R) P mb 0 (n + 1) (n + 1) (By * D) w7 zo zo kq.out zo (fun j _=>(Cq.out j).symm) (qj.out.lim _ (Nat.le_refl _)) (vN oP.out (by first | exact lI.out | exact yu.out)) ZS (by rw [<- HD.out];exact Nat.mul_div_le _ _) rP.out).mono ?_;rintro e w6 ⟨rfl,kM,oL⟩
     have nR : bz L (ft (dg R) at' (n + 1) (dg (P - By * D))) = bz L (dg (R - By * D * WW ^ at')):=iJ (fun j _=>by
      have h:=CP.out j;rw [HP.out,HD.out] at h
      exact h)
     rw [nR] at kM;have kP:=ah kM;have qF:=ah oL;clear kM oL nR;go_wp2;refine bodyPost_ret (results_tmp rfl _ _ _) rfl ⟨rfl,kP.out,Below.thenGrown lH.out qF.out⟩
 . have bi : ¬ (top : Int) < (b1 : Int):=by omega
   have sF:=Nq.out;rw [if_neg hlt,ig] at sF;have ad4 : 18446744073709551615 = G:=sF;subst ad4;have lI : Hid (18446744073709551615 < WW):=by show _ < _;rw [ig];decide
   clear sF;have MD:=Hb.out.size;have lx:=Hx.out.lt;obtain ⟨W2,hW2⟩ : ∃ W2,W.alloc (.cells (bz (n + 1) fun _=>0).toArray 142) = W2:=⟨_,rfl⟩;have hb2 : Bw W W2:=by rw [<- hW2];exact zl
   have eJ : Hid (ai W2 W.heap.size 142 (bz (n + 1) fun _=>0)):=by rw [<- hW2];exact ai.new _ _ _
   have fU:=ah (aI Hb.out hb2);have nM:=ah (Hx.out.below hb2);clear hb2;obtain ⟨y0,y1⟩:=nM.out.c2;go_wp2_with fail;refine (ER W.heap.size (n + 1) 0 (n + 1) (n + 1) (fun _=>0) 0 b2 o2 n cap2 By 18446744073709551615 W2 zo zo eJ.out zo (fun j _=>by unfold dg;rw [Nat.zero_div];rfl) (Hy.out.below fU.out) oP.out zo lI.out).mono ?_;rintro e w3 ⟨rfl,qB,qg⟩
   have eB : bz (n + 1) (ft (fun _=>0) 0 (n + 1) (dg (0 + By * 18446744073709551615))) = bz (n + 1) (dg (By * 18446744073709551615)):=iJ (fun j hj=>by
    have:=Bu (fun _=>0) 0 (n + 1) (dg (0 + By * 18446744073709551615)) j hj
    simpa only [Nat.zero_add] using this)
   rw [eB] at qB;have iM:=ah qB;have nZ:=vN oP.out lI.out;have sS:=gL nZ;have yA:=ah nZ;have se:=ah (nM.out.grown qg (fun h=>by have:=Option.some.inj h;omega));have mE : Hid (di w3 b at' (n + 1) P):=(CL.out.below fU.out).grown qg (fun h=>by have:=Option.some.inj h;omega);have Gf:=ah ((NM.out.below fU.out).grown qg (fun h=>by have:=Option.some.inj h;omega));have dA:=ah (fU.out.grown qg (by have:=fU.out.size;omega) (fun j e=>by have:=Option.some.inj e;omega));clear qB qg eB nZ x0 x1 y0 y1;obtain ⟨x0,x1⟩:=se.out.c2;go_wp2_with fail;refine (jo W.heap.size 0 (n + 1) (n + 1) (By * 18446744073709551615) w3 zo (Nat.le_refl _) (iM.out.lim _ (Nat.le_refl _)) yA.out).mono ?_;rintro e w4 ⟨rfl,rfl⟩;go_wp2_with fail;refine (vI W.heap.size 0 (ln (By * 18446744073709551615)) (n + 1) (By * 18446744073709551615) b at' (n + 1) (fx - at') P w3 zo sS (iM.out.lim _ sS) (dP _) zo zo mE.out rP.out).mono ?_;rintro e w5 ⟨rfl,dc⟩;have eW:=ah dc;have wP:=ah (se.out.below dc);have qj:=ah (iM.out.below dc);have kq:=ah (Gf.out.below dc);have lH:=ah (aI dA.out eW.out);clear dc x0 x1;obtain ⟨x0,x1⟩:=wP.out.c2;by_cases hle : By * 18446744073709551615 <= P
   . have Ad : D = 18446744073709551615:=by
      have h1 : 18446744073709551615 <= D:=by rw [<- HD.out];exact (Nat.le_div_iff_mul_le Cm.out).2 (by rw [Nat.mul_comm];exact hle)
      have h2:=Og.out;rw [HD.out] at h2;omega
     have uh:=ah Ad;have jR:=IL hle;have GD:=ah hle;clear Ad hle;obtain ⟨c,hc⟩ : ∃ c,cG (By * 18446744073709551615) P = c:=⟨_,rfl⟩;rw [hc] at jR;rw [hc];clear hc;have aeC : ¬ 0 < c:=by omega
     go_wp2_with fail;refine (Bl b L at' (n + 1) (fx - at') (dg R) P W.heap.size 0 (n + 1) (n + 1) (By * 18446744073709551615) w5 zo zo kq.out zo (fun j _=>(Cq.out j).symm) (qj.out.lim _ (Nat.le_refl _)) (vN oP.out (by first | exact lI.out | exact yu.out)) ZS GD.out rP.out).mono ?_;rintro e w6 ⟨rfl,kM,oL⟩
     have nR : bz L (ft (dg R) at' (n + 1) (dg (P - By * 18446744073709551615))) = bz L (dg (R - By * 18446744073709551615 * WW ^ at')):=iJ (fun j _=>by
      have h:=CP.out j;rw [HP.out,HD.out,uh.out] at h
      exact h)
     rw [nR] at kM;have kP:=ah kM;have qF:=ah oL;clear kM oL nR;go_wp2;refine bodyPost_ret (v:=.int .u64 (D : Int)) (by have hh:=uh.out;simp [results,Tryz.results178,go_sem,hh]) rfl ⟨rfl,by rw [uh.out];exact kP.out,Below.thenGrown lH.out qF.out⟩
   . have jR:=IK (a:=By * 18446744073709551615) (b:=P) zo;have hDl : P / By < 18446744073709551615:=by
      rcases Nat.lt_or_ge (P / By) 18446744073709551615 with h | h
      . exact h
      . exact absurd (Nat.le_trans (Nat.mul_le_mul_left By h) (Nat.mul_div_le _ _)) hle
     have yw:=ah hDl;have yu : Hid (D < WW):=by have h1:=lI.out;have h2:=yw.out;rw [HD.out] at h2;exact Nat.lt_trans h2 h1
     clear hDl hle;rw [jR];clear jR;go_wp2_with fail;refine (Uw (some ⟨b,0,none⟩) L fx b2 o2 n cap2 By b at' (fx - at') P 18446744073709551615 w5 zo uV zo (Hy.out.below lH.out) oP.out Cm.out (mE.out.below eW.out) rP.out yw.out lI.out).mono ?_;rintro e w7 ⟨mb,rfl,⟨qM,lmb⟩,qb⟩;have FA:=lH.out.size;replace qj:=ah qM;replace kq:=ah (kq.out.below qb);replace lH:=ah (aI lH.out qb);rw [HD.out] at qj;rw [HD.out];have MC:=kq.out.lt;clear qM qb x0 x1;go_wp2_with fail;refine (Bl b L at' (n + 1) (fx - at') (dg R) P mb 0 (n + 1) (n + 1) (By * D) w7 zo zo kq.out zo (fun j _=>(Cq.out j).symm) (qj.out.lim _ (Nat.le_refl _)) (vN oP.out (by first | exact lI.out | exact yu.out)) ZS (by rw [<- HD.out];exact Nat.mul_div_le _ _) rP.out).mono ?_;rintro e w6 ⟨rfl,kM,oL⟩
     have nR : bz L (ft (dg R) at' (n + 1) (dg (P - By * D))) = bz L (dg (R - By * D * WW ^ at')):=iJ (fun j _=>by
      have h:=CP.out j;rw [HP.out,HD.out] at h
      exact h)
     rw [nR] at kM;have kP:=ah kM;have qF:=ah oL;clear kM oL nR;go_wp2;refine bodyPost_ret (results_tmp rfl _ _ _) rfl ⟨rfl,kP.out,Below.thenGrown lH.out qF.out⟩
theorem IY (X Y j : Nat) : X % (Y * WW ^ (j + 1)) / WW ^ j / Y = dg (X / Y) j:=by unfold dg;rw [Nat.div_div_eq_div_mul,Nat.div_div_eq_div_mul,show Y * WW ^ (j + 1) = WW ^ j * Y * WW by rw [Nat.pow_succ,<- Nat.mul_assoc,Nat.mul_comm Y],Nat.mod_mul_right_div_self,Nat.mul_comm Y]
theorem acS (X Y j : Nat) : X % (Y * WW ^ (j + 1)) - Y * (X % (Y * WW ^ (j + 1)) / WW ^ j / Y) * WW ^ j = X % (Y * WW ^ j):=by
 rw [IY];have e : Y * WW ^ (j + 1) = Y * WW ^ j * WW:=by rw [Nat.pow_succ,<- Nat.mul_assoc]
 have e2 : dg (X / Y) j = X / (Y * WW ^ j) % WW:=by unfold dg;rw [Nat.div_div_eq_div_mul]
 rw [e,Nat.mod_mul,e2];have e3 : Y * (X / (Y * WW ^ j) % WW) * WW ^ j = Y * WW ^ j * (X / (Y * WW ^ j) % WW):=by grind
 rw [e3];omega
theorem ahf {Y : Nat} (h : 0 < Y) : ∃ s,s < 64 /\ s = 64 - bu (dg Y (ln Y - 1)) /\ Y * 2 ^ s < WW ^ ln Y /\ 9223372036854775808 <= dg (Y * 2 ^ s) (ln Y - 1) /\ ln (Y * 2 ^ s) = ln Y /\ 0 < bu (dg Y (ln Y - 1)) /\ bu (dg Y (ln Y - 1)) <= 64:=by
 have hl:=EQ h;obtain ⟨k,hk⟩ : ∃ k,ln Y = k + 1:=⟨ln Y - 1,by omega⟩;obtain ⟨h1,h2⟩:=UF hk;obtain ⟨t1,t2,t3⟩:=PF Y k h1 h2;rw [hk,Nat.add_sub_cancel];obtain ⟨B,hB⟩ : ∃ B,bu (dg Y k) = B:=⟨_,rfl⟩;rw [hB] at t1 t2 t3 ⊢;have h3:=mJ Y;rw [t1] at h3;have e1 : WW ^ (k + 1) = 2 ^ (64 * k + 64):=by rw [jl];congr 1
 have e2 : (2 : Nat) ^ (64 * k + 64) = 2 ^ (64 * k + B) * 2 ^ (64 - B):=by rw [<- Nat.pow_add];congr 1;omega
 have hlt : Y * 2 ^ (64 - B) < WW ^ (k + 1):=by rw [e1,e2];exact Nat.mul_lt_mul_of_pos_right h3 (Nat.pow_pos zd)
 have hge : 2 ^ (64 * k + B - 1) <= Y:=by
  rcases Nat.lt_or_ge Y (2 ^ (64 * k + B - 1)) with h4 | h4
  . have:=fE h4;omega
  . exact h4
 have Sy : 9223372036854775808 * WW ^ k <= Y * 2 ^ (64 - B):=by
  have e3 : 9223372036854775808 * WW ^ k = 2 ^ (64 * k + B - 1) * 2 ^ (64 - B):=by rw [jl,<- Nat.pow_add,show 64 * k + B - 1 + (64 - B) = 63 + 64 * k by omega,Nat.pow_add]
  rw [e3];exact Nat.mul_le_mul_right _ hge
 refine ⟨64 - B,by omega,rfl,hlt,?_,?_,t3,t2⟩
 . unfold dg;have h5 : 9223372036854775808 <= Y * 2 ^ (64 - B) / WW ^ k:=(Nat.le_div_iff_mul_le (dw k)).2 Sy;have h6 : Y * 2 ^ (64 - B) / WW ^ k < WW:=by refine Nat.div_lt_of_lt_mul ?_;rw [Nat.pow_succ] at hlt;exact hlt
   rw [Nat.mod_eq_of_lt h6];exact h5
 . refine UE hlt (Nat.le_trans ?_ Sy);exact Nat.le_mul_of_pos_left _ zd
theorem aco (b o n cap v : Nat) (w : World) (hm : n <= 1099511627776) (hcap : n <= cap) (hc : di w b o n v) (hv : v < WW ^ n) :
 Calls Tryz.prog 165 #[.slice (some ⟨b,o,none⟩) n cap] w fun e w'=>e = .returned (.slice (some ⟨b,o,none⟩) (ln v) cap) /\ Bw w w':=by
 refine (jo b o n cap v w hm hcap hc hv).mono ?_;rintro e w' ⟨he,rfl⟩;exact ⟨he,Below.refl _ _⟩
theorem acV (b m cap v n : Nat) (w : World) (hm : m <= 549755813888) (hcap : m <= cap) (hn : n < 64) (hx : di w b 0 m v) (hv : v < WW ^ m) :
 Calls Tryz.prog 167 #[.slice (some ⟨b,0,none⟩) m cap,.int .i64 (n : Int)] w fun e w'=>∃ a k c,e = .returned (.slice a k c) /\ (wQ w' a k (v / 2 ^ n) /\ k <= c /\ k <= 549755813888 /\ v / 2 ^ n < WW ^ k) /\ Bw w w':=by
 rcases Nat.eq_zero_or_pos m with h | h
 . subst h;have hv0 : v = 0:=by simpa using hv
   subst hv0;refine (Qg (some ⟨b,0,none⟩) 0 cap n w zo zo zo).mono ?_;rintro e w' ⟨he,rfl⟩;exact ⟨none,0,0,he,⟨fun h=>absurd h zo,Nat.le_refl _,by omega,by rw [Nat.zero_div];exact dw 0⟩,Below.refl _ _⟩
 . have h64 : n / 64 = 0:=by omega
   refine (Qf b 0 m cap v n w hm hcap zo hx hv zo).mono ?_;rintro e w' ⟨he,hB,hb,hle⟩;exact ⟨_,_,_,he,⟨fun _=>⟨_,_,rfl,hB.lim _ hle⟩,hle,by omega,dP _⟩,hb⟩
theorem ag4 (l m : List UInt8) (w : World) (hl : l.length <= 68719476736) (hm : m.length <= 68719476736) (hm0 : 0 < nv m) (hle : nv m <= nv l) :
 Calls Tryz.prog 156 #[.string (bs l),.string (bs m)] w fun e w'=>e = .returned (.tuple #[.string (bs (nt (nv l / nv m))),.string (bs (nt (nv l % nv m))),.bool true]) /\ Bw w w':=by
 obtain ⟨X,hX⟩ : ∃ X,nv l = X:=⟨_,rfl⟩;obtain ⟨Y,hY⟩ : ∃ Y,nv m = Y:=⟨_,rfl⟩;have h1:=fun W=>jY l W zo;have h2:=fun W=>jY m W zo;rw [hX] at h1 hle ⊢;rw [hY] at h2 hle hm0 ⊢;obtain ⟨s,hs,TG,Ec,EL,Ez,Sa,hbl⟩:=ahf hm0;have Rz : 0 < X:=by omega
 have hlx:=EQ Rz;have AL:=EQ hm0;obtain ⟨lx,uZ⟩ : ∃ lx,ln X = lx:=⟨_,rfl⟩;obtain ⟨ly,vd⟩ : ∃ ly,ln Y = ly:=⟨_,rfl⟩;have mO:=dP X;have qY:=dP Y;rw [uZ] at h1 hlx mO;rw [vd] at h2 AL qY Ec EL Ez TG Sa hbl;obtain ⟨cx,iT⟩ : ∃ cx,(l.length + 7) / 8 = cx:=⟨_,rfl⟩;obtain ⟨cy,sM⟩ : ∃ cy,(m.length + 7) / 8 = cy:=⟨_,rfl⟩;rw [iT] at h1;rw [sM] at h2;have EA : lx <= cx:=by rw [<- uZ,<- iT,<- hX];exact gL (CV l)
 have EB : ly <= cy:=by rw [<- vd,<- sM,<- hY];exact gL (CV m)
 have aeD : cx <= 8589934593:=by omega
 have El : cy <= 8589934593:=by omega
 have jR : ¬ cG X Y < 0:=by unfold cG;rw [if_neg zo];split<;>omega
 have En : X * 2 ^ s / (Y * 2 ^ s) = X / Y:=Nat.mul_div_mul_right _ _ (Nat.pow_pos zd);have hdr : X * 2 ^ s % (Y * 2 ^ s) = X % Y * 2 ^ s:=Nat.mul_mod_mul_right _ _ _;have gJ : X * 2 ^ s < WW ^ (lx + 1):=by rw [Nat.pow_succ];exact Nat.mul_lt_mul'' mO (by rw [jk];exact Nat.pow_lt_pow_right zd hs)
 have SX:=gL gJ;obtain ⟨X',JO⟩ : ∃ X',X * 2 ^ s = X':=⟨_,rfl⟩;obtain ⟨Y',JS⟩ : ∃ Y',Y * 2 ^ s = Y':=⟨_,rfl⟩;have EM:=fun b W h=>MJ b 0 lx cx X s W zo zo h mO;have KU:=fun b W h=>MJ b 0 ly cy Y s W zo zo h qY;rw [JO] at En hdr gJ SX;rw [JS] at En hdr Ec EL Ez;simp only [JO,show s / 64 = 0 by omega,Nat.add_zero] at EM;simp only [JS,show s / 64 = 0 by omega,Nat.add_zero,Ez] at KU;obtain ⟨lX,Ex⟩ : ∃ lX,ln X' = lX:=⟨_,rfl⟩;rw [Ex] at SX;simp only [Ex] at EM;have JQ : X' < WW ^ lX:=by rw [<- Ex];exact dP _
 have Ke:=fun b W h=>IM (some ⟨b,0,none⟩) lX (lx + 1) X' ((lx : Int) + 2) W zo zo zo h JQ;rw [show max ((lx : Int) + 2).toNat lX = lx + 2 by omega] at Ke;have AO : ∀ W,Calls Tryz.prog 177 #[.int .u64 (dg Y (ly - 1) : Int)] W fun e w'=>e = .returned (.int .i64 (s : Int)) /\ W = w':=fun W=>by have:=Lv (dg Y (ly - 1)) W (ik _ _);rw [show (64 - (bu (dg Y (ly - 1)) : Int)) = (s : Int) by omega] at this;exact this
 have kH : ly <= lx:=by
  have h3 : ¬ lx < ly:=fun h3=>by have:=Lq (v:=X) (u:=Y) (by rw [uZ,vd];exact h3);omega
  omega
 have hmk:=vL ((lx : Int) + 2 - ly) (lx + 2 - ly) zo zo;have H1:=ah h1;have H2:=ah h2;have ZK:=ah EM;have ZL:=ah KU;have XV:=ah Ke;have GH:=ah AO;have Ct:=ah mO;have FZ:=ah qY;have XG:=ah Ec;have zD:=ah EL;have XZ:=ah En;have qA:=ah hdr;have akE:=ah JQ;have Cu:=ah gJ;have Hm0:=ah hm0;clear h1 h2 EM KU Ke AO mO qY Ec EL En hdr JQ gJ hX hY TG uZ vd iT sM JO JS Ex Ez hle Rz hm0 Sa hbl;go_enter Tryz.func156,Tryz.ntmps156;go_wp2_with fail;refine (H1.out w).mono ?_;rintro e w1 ⟨rfl,bK,hb1,eT⟩;have dH:=ah bK;have bL:=ah hb1;clear bK hb1;go_wp2_with fail;refine (H2.out w1).mono ?_;rintro e w2 ⟨rfl,dL,hb2,xD⟩;have eJ:=ah dL;have bV:=ah (aI bL.out hb2);replace dH:=ah (dH.out.below hb2);have s1:=dH.out.lt;have s2:=eJ.out.lt;clear dL hb2;have aeT : ((ly : Int) == 0) = false:=by simp;omega
 go_wp2_with fail;refine (vI w.heap.size 0 lx cx X w1.heap.size 0 ly cy Y w2 zo eT (dH.out.lim _ eT) Ct.out zo xD (eJ.out.lim _ xD) FZ.out).mono ?_;rintro e w3 ⟨rfl,hb3⟩;replace dH:=ah (dH.out.below hb3);replace eJ:=ah (eJ.out.below hb3);have dA:=ah (aI bV.out hb3);clear hb3;obtain ⟨c,hc⟩ : ∃ c,cG X Y = c:=⟨_,rfl⟩;rw [hc] at jR ⊢;clear hc;have hdec : decide (c < 0) = false:=by simp;omega
 have i1:=Bg ly cy (ly - 1) ((ly : Int) - 1) (rfl : (some ⟨w1.heap.size,0,none⟩ : Option Addr) = _) zo zo;rw [Nat.mul_one,Nat.zero_add] at i1;have cY : w3.cell? ⟨w1.heap.size,ly - 1,none⟩ = some (.int .u64 (dg Y (ly - 1) : Int)):=by rw [eJ.out.cell,fB _ _ _ zo]
 go_wp2_with fail;refine (GH.out w3).mono ?_;rintro e w4 ⟨rfl,rfl⟩;clear cY i1;go_wp2_with fail;refine (ZK.out w.heap.size w3 (dH.out.lim _ eT)).mono ?_;rintro e w4 ⟨rfl,qB,qb,qle⟩;have FJ:=ah qB;replace eJ:=ah (eJ.out.below qb);have jH:=ah (aI dA.out qb);have s4:=FJ.out.lt;clear qB qb;go_wp2_with fail;refine (XV.out w3.heap.size w4 (fun _=>⟨_,_,rfl,FJ.out.lim _ zo⟩)).mono ?_;rintro e w5 ⟨rfl,qB,qb⟩;have ko:=ah qB;replace eJ:=ah (eJ.out.below qb);have eW:=ah (aI jH.out qb);have s5:=ko.out.lt;clear qB qb;go_wp2_with fail;refine (ZL.out w1.heap.size w5 (eJ.out.lim _ xD)).mono ?_;rintro e w6 ⟨rfl,qB,qb,anj⟩;have kP:=ah qB;replace ko:=ah (ko.out.below qb);have Gd:=ah (aI eW.out qb);have s6:=kP.out.lt;have VZ:=ko.out.lt;have q4:=jH.out.size;clear qB qb dH eJ FJ bL bV dA jH eW;obtain ⟨M,hM⟩ : ∃ M,lx + 2 - ly = M:=⟨_,rfl⟩;rw [hM] at hmk;obtain ⟨lB,hlB⟩ : ∃ lB,w4.heap.size = lB:=⟨_,rfl⟩;obtain ⟨yB,Ue⟩ : ∃ yB,w5.heap.size = yB:=⟨_,rfl⟩;rw [hlB] at ko s5 VZ q4 ⊢;rw [Ue] at kP s6 s5 ⊢;obtain ⟨W7,Eb⟩ : ∃ W7,w6.alloc (.cells #[.slice (some ⟨lB,0,none⟩) (lx + 2) (lx + 2),.slice (some ⟨yB,0,none⟩) ly (ly + 1)] 198) = W7:=⟨_,rfl⟩;have ir : Bw w6 W7:=by rw [<- Eb];exact zl
 have Gm : Hid (ai W7 w6.heap.size 198 [.slice (some ⟨lB,0,none⟩) (lx + 2) (lx + 2),.slice (some ⟨yB,0,none⟩) ly (ly + 1)]):=by rw [<- Eb];exact ai.new _ _ _
 have s7 : W7.heap.size = w6.heap.size + 1:=by rw [<- Eb];simp
 obtain ⟨W8,JM⟩ : ∃ W8,W7.alloc (.cells (bz M fun _=>0).toArray 142) = W8:=⟨_,rfl⟩;have fP : Bw W7 W8:=by rw [<- JM];exact zl
 have Ho : Hid (ai W8 W7.heap.size 142 (bz M fun _=>0)):=by rw [<- JM];exact ai.new _ _ _
 have Hd:=ah (Gm.out.below fP);replace ko:=ah ((ko.out.below ir).below fP);replace kP:=ah ((kP.out.below ir).below fP);have gH:=ah (aI (aI Gd.out ir) fP);have FA:=Gd.out.size;have S7:=ah s7;clear ir fP Gd hlB Ue s7;obtain ⟨d0,d1⟩:=Gm.out.c2;go_wp2_with fail;have Oo : Hid (di W8 yB 0 ly Y'):=kP.out.lim _ zo;have Ai : M + ly = lx + 2:=by omega
 have JP : X' < Y' * WW ^ M:=by have h1 : WW ^ (ly - 1) <= Y':=Wv (by have:=zD.out;omega);have h2 : WW ^ (ly - 1) * WW ^ M <= Y' * WW ^ M:=Nat.mul_le_mul_right _ h1;rw [<- Nat.pow_add,show ly - 1 + M = lx + 1 by omega] at h2;exact Nat.lt_of_lt_of_le Cu.out h2
 have RD : 0 < Y':=by
  rcases Nat.eq_zero_or_pos Y' with h | h
  . have:=zD.out;rw [h] at this;unfold dg at this;simp at this
  . exact h
 have Rj : X' / Y' < WW ^ M:=Nat.div_lt_of_lt_mul JP;have XF:=ah JP;have XH:=ah RD;have Xu:=ah Rj;clear JP RD Rj d0 d1 Eb JM hmk hM;obtain ⟨oB,KI⟩ : ∃ oB,W7.heap.size = oB:=⟨_,rfl⟩;rw [KI] at Ho ⊢;have Tm : oB = w6.heap.size + 1:=by rw [<- KI];exact S7.out
 obtain ⟨dB,Sg⟩ : ∃ dB,w6.heap.size = dB:=⟨_,rfl⟩;rw [Sg] at Hd Tm s6 VZ FA ⊢;have alK : dB < oB:=by omega
 clear KI Sg S7 Gm Tm;go_loopw [12] (fun x wr=>∃ (k : Nat) (i : Int),k <= M /\ i = (k : Int) - 1 /\ x = .int .i64 i /\ ai wr dB 198 [.slice (some ⟨lB,0,none⟩) (lx + 2) (lx + 2),.slice (some ⟨yB,0,none⟩) ly (ly + 1)] /\ ai wr lB 142 (bz (lx + 2) (dg (X' % (Y' * WW ^ k)))) /\ ai wr oB 142 (bz M fun j=>if k <= j then dg (X' / Y') j else 0) /\ di wr yB 0 ly Y' /\ Bw w wr) (fun x _=>(intOf x + 1).toNat);case atStart=>
  refine ⟨M,_,Nat.le_refl _,rfl,rfl,Hd.out,?_,?_,Oo.out,gH.out⟩
  . rw [Nat.mod_eq_of_lt XF.out];exact ko.out
  . have e : bz M (fun j=>if M <= j then dg (X' / Y') j else 0) = bz M fun _=>0:=iJ (fun j hj=>by rw [if_neg zo]);rw [e];exact Ho.out
 case round=>
  clear Hd ko Ho Oo gH kP;obtain ⟨k,i,hk,hi,rfl,pd,pl,po,py,pb⟩:=hrel;have Hd:=ah pd;have Hl:=ah pl;have Ho:=ah po;have Hy:=ah py;have Hb:=ah pb;clear pd pl po py pb;obtain ⟨d0,d1⟩:=Hd.out.c2;by_cases ju : 0 < k
  . obtain ⟨j,rfl⟩ : ∃ j,k = j + 1:=⟨k - 1,by omega⟩;obtain rfl : i = (j : Int):=by omega
    clear hi;go_wp2_with fail;refine (acO lB (lx + 2) (lx + 2) (X' % (Y' * WW ^ (j + 1))) yB 0 ly (ly + 1) Y' j wr zo (Nat.le_refl _) AL zo Hl.out Hy.out XG.out zD.out (Nat.mod_lt _ (Nat.mul_pos XH.out (dw _))) zo zo).mono ?_;rintro e w9 ⟨rfl,qB,qg⟩;rw [IY] at qB ⊢;have hrest:=acS X' Y' j;rw [IY] at hrest;rw [hrest] at qB;have kn : ∀ b,b ≠ lB -> some b ≠ some lB:=fun b h e=>h (Option.some.inj e);have YD:=ah qB;have NU:=ah (Hd.out.grown qg (kn _ zo));have GN:=ah (Ho.out.grown qg (kn _ zo));have Hy9:=ah (Hy.out.grown qg (kn _ zo));have XP:=ah (Hb.out.grown qg Hb.out.size (fun b e=>by have:=Option.some.inj e;omega));obtain ⟨q,hq⟩ : ∃ q,dg (X' / Y') j = q:=⟨_,rfl⟩;rw [hq];have Hq:=ah hq;have i2:=Bg M M j (j : Int) (rfl : (some ⟨oB,0,none⟩ : Option Addr) = _) zo rfl;rw [Nat.mul_one,Nat.zero_add] at i2;have co : w9.cell? ⟨oB,j,none⟩ = some (.int .u64 ((if j + 1 <= j then dg (X' / Y') j else 0 : Nat) : Int)):=by rw [GN.out.cell,fB _ _ _ zo]
    have fo : w9.frozen? ⟨oB,j,none⟩ = false:=GN.out.free j;clear qB qg hrest hq d0 d1;obtain ⟨d0,d1⟩:=NU.out.c2;go_wp2;go_roundw;case rel=>
     refine ⟨j,(j : Int) - 1,by omega,rfl,by go_num,NU.out.so oB j zo _,YD.out.so oB j zo _,?_,?_,XP.out.sc oB j zo _⟩
     . have h:=GN.out.set j (.int .u64 (q : Int));rw [yo] at h
       have e : bz M (fun i=>if i = j then q else if j + 1 <= i then dg (X' / Y') i else 0) = bz M (fun i=>if j <= i then dg (X' / Y') i else 0):=iJ (fun i hi=>by
        by_cases h1 : i = j
        . subst h1;rw [if_pos rfl,if_pos (Nat.le_refl _)];exact Hq.out.symm
        . rw [if_neg h1];by_cases h2 : j + 1 <= i
          . rw [if_pos h2,if_pos zo]
          . rw [if_neg h2,if_neg zo])
       rw [e] at h;exact h
     . exact fun t ht=>eQ zp (Hy9.out t ht)
    case measure=>simp [intOf]
  . obtain rfl : k = 0:=by omega
    obtain rfl : i = -1:=by omega
    have HL : Hid (di wr oB 0 M (X' / Y')):=fun t ht=>by rw [Ho.out.cell,Nat.zero_add,fB _ _ _ ht,if_pos (Nat.zero_le _)]
    have hR : X' % (Y' * WW ^ 0) = X' % Y':=by rw [Nat.pow_zero,Nat.mul_one]
    rw [hR] at Hl;have NB : Hid (X' % Y' < WW ^ (lx + 2)):=Nat.lt_of_le_of_lt (Nat.mod_le _ _) (Nat.lt_of_lt_of_le Cu.out (Nat.pow_le_pow_right ij zo));have SV:=gL NB.out;have HR:=ah (show X' % Y' / 2 ^ s = X % Y by rw [qA.out];exact Nat.mul_div_cancel _ (Nat.pow_pos zd));clear hi hR;go_wp2_with fail;have kq:=Hb;clear Hb;have Hb : Hid (Bw wr wr):=Below.refl _ _;obtain ⟨d0,d1⟩:=Hd.out.c2;refine bG (fun w'=>w'.cell? ⟨dB,0,none⟩ = some (.slice (some ⟨lB,0,none⟩) (lx + 2) (lx + 2))) (fun i=>Nat.blt i 100000) [(0,true),(2,true),(3,true),(5,true),(1,false),(4,false),(6,false),(7,false),(8,true),(9,true),(10,true)] zk zk rfl zk zc d0 ?_;iterate 4 (refine pT rfl rfl ?_;try simp only [UU])
    refine aH rfl rfl (fun K hK=>?_);go_simp;with_reducible refine (ub oB 0 M M (X' / Y') _ zo (Nat.le_refl _) (HL.out.below (by first | exact Hb.out | exact Below.drew Hb.out)) Xu.out).mono ?_
    rintro e y1 ⟨rfl,hq⟩;have ae : Bw wr y1:=by first | exact hq | exact aM hq
    clear d0 d1;replace Hd:=kB Hd ae;obtain ⟨d0,d1⟩:=Hd.out.c2;replace Hb:=au Hb ae;clear ae;refine hK _ _ (fun _=>d0) ?_;clear hK K;try simp only [UU]
    refine aH rfl rfl (fun K hK=>?_);go_simp;with_reducible refine (aco lB 0 (lx + 2) (lx + 2) (X' % Y') _ zo (Nat.le_refl _) ((Hl.out.lim _ (Nat.le_refl _)).below (by first | exact Hb.out | exact Below.drew Hb.out)) NB.out).mono ?_
    rintro e y2 ⟨rfl,hq⟩;have ae : Bw y1 y2:=by first | exact hq | exact aM hq
    clear d0 d1;replace Hd:=kB Hd ae;obtain ⟨d0,d1⟩:=Hd.out.c2;replace Hb:=au Hb ae;clear ae;refine hK _ _ (fun _=>d0) ?_;clear hK K;try simp only [UU]
    refine aH rfl rfl (fun K hK=>?_);go_simp;with_reducible refine (acV lB (ln (X' % Y')) (lx + 2) (X' % Y') s _ zo SV hs ((Hl.out.lim _ SV).below (by first | exact Hb.out | exact Below.drew Hb.out)) (dP _)).mono ?_
    rintro e y3 ⟨a,k,c2,rfl,⟨qL,qc,qk,qv⟩,hq⟩;have ae : Bw y2 y3:=by first | exact hq | exact aM hq
    clear d0 d1;replace Hd:=kB Hd ae;obtain ⟨d0,d1⟩:=Hd.out.c2;replace Hb:=au Hb ae;clear ae;refine hK _ _ (fun _=>d0) ?_;clear hK K;try simp only [UU]
    refine aH rfl rfl (fun K hK=>?_);go_simp;with_reducible refine (Wt a k c2 (X' % Y' / 2 ^ s) _ zo qc qL qv).mono ?_
    rintro e y4 ⟨rfl,hq⟩;have ae : Bw y3 y4:=by first | exact hq | exact aM hq
    clear d0 d1;replace Hd:=kB Hd ae;obtain ⟨d0,d1⟩:=Hd.out.c2;replace Hb:=au Hb ae;clear ae;refine hK _ _ (fun _=>d0) ?_;clear hK K;try simp only [UU]
    iterate 3 (refine pT rfl rfl ?_;try simp only [UU])
    simp only [aU];go_wp2;refine bodyPost_ret (v:=.tuple #[.string (bs (nt (X / Y))),.string (bs (nt (X % Y))),.bool true]) (by have h1:=XZ.out;have h2:=HR.out;simp [results,Tryz.results156,go_sem,h1,h2]) rfl ⟨rfl,aI kq.out Hb.out⟩
section
variable {P : Program} {md : Region.Mode} {ops : Array Oper} {Q : Exit -> Act -> World -> Prop} {S : World -> Prop} {J : Nat -> Bool}
def zM (md : Region.Mode) (ops : Array Oper) (J : Nat -> Bool) (es : List Nat) (D : Nat -> List Nat) (last : List (Nat × Bool)) : Nat -> Array Bool -> Bool
 | 0,listed=>es.all (fun k=>listed.getD k false) && pU md ops J last listed
 | n + 1,listed=>listed.size == ops.size && !(Region.ready md ops listed).isEmpty && (Region.ready md ops listed).all fun k=>es.contains k && !(listed.getD k false) && decide (k < listed.size) && (D k).all (fun d=>es.contains d && listed.getD d false) && zM md ops J es D last n (listed.setIfInBounds k true)
def pj (es : List Nat) (listed : Array Bool) (i : Nat) : Bool:=es.contains i && listed.getD i false
theorem acU {es : List Nat} {listed : Array Bool} {k : Nat} (hk : es.contains k = true) (hl : k < listed.size) : pj es (listed.setIfInBounds k true) = fun i=>i == k || pj es listed i:=by
 funext i
 unfold pj;by_cases h : i = k
 . subst h;simp only [beq_self_eq_true,Bool.true_or];rw [hk];simp [hl]
 . have h2 : (i == k) = false:=by simpa using h
   rw [h2,Bool.false_or,getD_set_ne false (fun e=>h e.symm)]
theorem akc (hs : Region.noSelect ops = true) (hQ : ∀ (o : Oper) c a v w,Q (.panic c) (a.put o.dst v) w -> Q (.panic c) a w) (es : List Nat) (D : Nat -> List Nat) (last : List (Nat × Bool)) (I : (Nat -> Bool) -> Act -> World -> Prop)
 (h2 : ∀ dn a w,I dn a w -> S w) (h3 : ∀ k ∈ es,∀ dn a w,dn k = false -> (∀ d ∈ D k,dn d = true) -> I dn a w -> wpOp P ops Q k (I fun i=>i == k || dn i) a w) (h4 : ∀ dn a w,(∀ k ∈ es,dn k = true) -> I dn a w -> aU P ops Q S J last a w) (n : Nat) :
 ∀ (listed : Array Bool) (a : Act) (w : World),Closed md ops listed -> zM md ops J es D last n listed = true -> I (pj es listed) a w -> pZ P md ops Q S J (last.length + n) listed a w:=by
 induction n with
 | zero =>intro listed a w hc hok h;simp only [zM,Bool.and_eq_true,List.all_eq_true] at hok;exact Cg hs hQ last _ _ _ hc hok.2 (fun _=>h2 _ _ _ h) (h4 _ _ _ (fun k hk=>by unfold pj;rw [hok.1 k hk];simpa using hk) h)
 | succ n ih =>
   intro listed a w hc hok h;simp only [zM,Bool.and_eq_true,List.all_eq_true] at hok;obtain ⟨⟨_,h5⟩,h6⟩:=hok;refine ⟨fun h0=>(by rw [h0] at h5;simp at h5),fun k hk=>?_⟩;obtain ⟨⟨⟨⟨q1,q2⟩,q3⟩,q4⟩,q5⟩:=h6 k hk;have q3' : k < listed.size:=of_decide_eq_true q3;have hf : pj es listed k = false:=by unfold pj;rw [q1];simpa using q2
   refine wpOp_mono (fun a1 w1 q=>⟨fun _=>h2 _ _ _ q,ih _ _ _ (hc.list hk) q5 ?_⟩) (h3 k (by simpa using q1) _ a w hf (fun d hd=>by unfold pj;rw [Bool.and_eq_true];exact q4 d hd) h);rw [acU q1 q3'];exact q
def BA (md : Region.Mode) (ops : Array Oper) (J : Nat -> Bool) (es : List Nat) (D : Nat -> List Nat) (last : List (Nat × Bool)) : List Nat -> Array Bool -> Bool
 | [],listed=>es.all (fun k=>!(listed.getD k false)) && zM md ops J es D last es.length listed
 | x :: r,listed=>(Region.ready md ops listed).contains x && Region.free md ops listed x && waits md ops J x && BA md ops J es D last r (listed.setIfInBounds x true)
def akb (P : Program) (ops : Array Oper) (Q : Exit -> Act -> World -> Prop) (S : World -> Prop) (J : Nat -> Bool) (es : List Nat) (D : Nat -> List Nat) (last : List (Nat × Bool)) (a : Act) (w : World) : Prop:=
 ∃ I : (Nat -> Bool) -> Act -> World -> Prop,I (fun _=>false) a w /\ (∀ dn a w,I dn a w -> S w) /\ (∀ k ∈ es,∀ dn a w,dn k = false -> (∀ d ∈ D k,dn d = true) -> I dn a w -> wpOp P ops Q k (I fun i=>i == k || dn i) a w) /\ ∀ dn a w,(∀ k ∈ es,dn k = true) -> I dn a w -> aU P ops Q S J last a w
def yr (P : Program) (ops : Array Oper) (Q : Exit -> Act -> World -> Prop) (S : World -> Prop) (J : Nat -> Bool) (es : List Nat) (D : Nat -> List Nat) (last : List (Nat × Bool)) : List Nat -> Act -> World -> Prop
 | [],a,w=>akb P ops Q S J es D last a w
 | x :: r,a,w=>∃ o v,ops[x]? = some o /\ YieldsIf P ops S o v a /\ yr P ops Q S J es D last r (a.put o.dst v) w
theorem akd (hs : Region.noSelect ops = true) (hQ : ∀ (o : Oper) c a v w,Q (.panic c) (a.put o.dst v) w -> Q (.panic c) a w) (es : List Nat) (D : Nat -> List Nat) (last : List (Nat × Bool)) (r : List Nat) :
 ∀ (listed : Array Bool) (a : Act) (w : World),Closed md ops listed -> BA md ops J es D last r listed = true -> S w -> yr P ops Q S J es D last r a w -> pZ P md ops Q S J (last.length + es.length + r.length) listed a w:=by
 induction r with
 | nil =>
   intro listed a w hc hok hS h;simp only [BA,Bool.and_eq_true,List.all_eq_true] at hok;obtain ⟨I,h1,h2,h3,h4⟩:=h;have e : pj es listed = fun _=>false:=by
    funext i
    unfold pj;by_cases hi : es.contains i = true
    . have:=hok.1 i (by simpa using hi);rw [hi];simpa using this
    . simp only [Bool.not_eq_true] at hi;rw [hi];rfl
   exact akc hs hQ es D last I h2 h3 h4 es.length listed a w hc hok.2 (by rw [e];exact h1)
 | cons x r ih =>intro listed a w hc hok hS h;simp only [BA,Bool.and_eq_true] at hok;obtain ⟨⟨⟨h1,h2⟩,h3⟩,h4⟩:=hok;obtain ⟨o,v,ho,hy,h⟩:=h;exact Cf ho (Region.noSelect_spec hs) (fun c a w=>hQ o c a v w) h3 (last.length + es.length + r.length) listed a w hc h2 (by simpa using h1) hy hS (ih _ _ _ (hc.list (by simpa using h1)) h4 hS h)
theorem akj {id : Nat} {a : Act} {w : World} (S : World -> Prop) (J : Nat -> Bool) (es : List Nat) (D : Nat -> List Nat) (last : List (Nat × Bool)) (r : List Nat) (hm : P.follows .mixedOrders = true) (hs : Region.noSelect ops = true)
 (hl : last.length + es.length + r.length = ops.size) (hok : BA .any ops J es D last r (Array.replicate ops.size false) = true)
 (hQ : ∀ (o : Oper) c a v w,Q (.panic c) (a.put o.dst v) w -> Q (.panic c) a w) (hS : S w.drew) (h : yr P ops Q S J es D last r a w.drew) : (Code.region id ops true).wp P Q a w:=by
 refine wp_region_any hm (Ch ops.size _ _ _ ?_ (S:=S) (J:=J));have:=akd (md:=.any) (S:=S) (J:=J) hs hQ es D last r (Array.replicate ops.size false) a w.drew (Closed.empty _) hok hS h;rw [hl] at this;exact this
theorem ahQ {x : Nat} {es : List Nat} {D : Nat -> List Nat} {last : List (Nat × Bool)} {r : List Nat} {o : Oper} {v : Value} {a : Act} {w : World} (ho : ops.toList[x]? = some o) (hw : Region.wanted o (yielded ops a.tmps) = true)
 (hy : ∀ w',S w' -> (execOp a.eval o).run P w' = .ok (.value v) w') (h : yr P ops Q S J es D last r (a.put o.dst v) w) : yr P ops Q S J es D last (x :: r) a w:=
 ⟨o,v,by rw [<- Array.getElem?_toList];exact ho,.inl ⟨hw,hy⟩,h⟩
theorem ahP {es : List Nat} {D : Nat -> List Nat} {last : List (Nat × Bool)} {a : Act} {w : World} (I : Act -> (Nat -> Bool) -> Act -> World -> Prop) (h1 : I a (fun _=>false) a w) (h2 : ∀ dn a' w',I a dn a' w' -> S w')
 (h3 : ∀ k ∈ es,∀ dn a' w',dn k = false -> (∀ d ∈ D k,dn d = true) -> I a dn a' w' -> wpOp P ops Q k (I a fun i=>i == k || dn i) a' w') (h4 : ∀ dn a' w',(∀ k ∈ es,dn k = true) -> I a dn a' w' -> aU P ops Q S J last a' w') : yr P ops Q S J es D last [] a w:=
 ⟨I a,h1,h2,h3,h4⟩
theorem xY {k : Nat} {o : Oper} {a : Act} {w : World} {R : Act -> World -> Prop} (ho : ops.toList[k]? = some o) (hw : Region.wanted o (yielded ops a.tmps) = true) (h : ∀ K : Act -> World -> Prop,(∀ a' w',R a' w' -> K a' w') -> o.wp P a w K Q) : wpOp P ops Q k R a w:=by rw [Array.getElem?_toList] at ho;unfold wpOp;simp only [ho,hw,if_true];exact .inl (h _ (fun a' w' h=>h))
theorem yc (a : Act) (k : Nat) : a.put (some k) (a.tmps.getD k undef) = a:=by
 unfold Act.put;have : a.tmps.setIfInBounds k (a.tmps.getD k undef) = a.tmps:=by
  apply Array.ext
  . simp
  . intro i h1 h2;rw [Array.getElem_setIfInBounds];split
    . rename_i e;subst e;simp [h2]
    . rfl
 cases a
 simp only at this ⊢;rw [this]
end
section
variable {P : Program} {md : Region.Mode} {ops : Array Oper} {Q : Exit -> Act -> World -> Prop} {S : World -> Prop} {J : Nat -> Bool}
def solo (r : List Nat) (i : Nat) (b : Bool) : Bool:=match r with
 | [k]=>k == i
 | _=>r.contains i && b
def rG (md : Region.Mode) (ops : Array Oper) (J : Nat -> Bool) : List (Nat × Bool) -> Array Bool -> Bool
 | [],listed=>(Region.ready md ops listed).isEmpty
 | (i,true) :: rest,listed=>solo (Region.ready md ops listed) i (Region.free md ops listed i && waits md ops J i) && rG md ops J rest (listed.setIfInBounds i true)
 | (i,false) :: rest,listed=>Region.ready md ops listed == [i] && (J i || !rest.any (·.2)) && rG md ops J rest (listed.setIfInBounds i true)
theorem akf (hs : Region.noSelect ops = true) (hQ : ∀ (o : Oper) c a v w,Q (.panic c) (a.put o.dst v) w -> Q (.panic c) a w) (plan : List (Nat × Bool)) :
 ∀ (listed : Array Bool) (a : Act) (w : World),Closed md ops listed -> rG md ops J plan listed = true -> (plan.any (·.2) = true -> S w) -> aU P ops Q S J plan a w -> pZ P md ops Q S J plan.length listed a w:=by
 induction plan with
 | nil =>intro listed a w _ hok _ h;exact ⟨List.isEmpty_iff.1 hok,h⟩
 | cons x rest ih =>
   obtain ⟨i,b⟩:=x;intro listed a w hc hok hS h;cases b with
   | true =>
     simp only [rG,Bool.and_eq_true] at hok;obtain ⟨h1,h4⟩:=hok;obtain ⟨o,v,ho,hy,h⟩:=h;have hSw : S w:=hS zm;by_cases hr : Region.ready md ops listed = [i]
     . refine ⟨fun h0=>(by rw [hr] at h0;cases h0),fun j hj=>?_⟩;rw [hr] at hj;obtain rfl : j = i:=by simpa using hj
       exact hy.wpOp ho hSw ⟨fun _=>hSw,ih _ _ _ (hc.list (by rw [hr];exact List.mem_singleton.2 rfl)) h4 (fun _=>hSw) h⟩
     . have h9 : (Region.ready md ops listed).contains i = true /\ (Region.free md ops listed i && waits md ops J i) = true:=by
        unfold solo at h1;split at h1
        . rename_i k hk
          have : k = i:=by simpa using h1
          subst this;exact absurd hk hr
        . simpa [Bool.and_eq_true] using h1
       rw [Bool.and_eq_true] at h9;exact Cf ho (Region.noSelect_spec hs) (fun c a w=>hQ o c a v w) h9.2.2 rest.length listed a w hc h9.2.1 (by simpa using h9.1) hy hSw (ih _ _ _ (hc.list (by simpa using h9.1)) h4 (fun _=>hSw) h)
   | false =>
     simp only [rG,Bool.and_eq_true,beq_iff_eq] at hok;obtain ⟨⟨h1,h2⟩,h3⟩:=hok;refine ⟨fun h0=>(by rw [h1] at h0;cases h0),fun j hj=>?_⟩;rw [h1] at hj;obtain rfl : j = i:=by simpa using hj
     refine wpOp_mono (fun a' w' h4=>⟨h4.1,ih _ _ _ (hc.list (by rw [h1];exact List.mem_singleton.2 rfl)) h3 (fun qZ=>?_) h4.2⟩) h;rw [Bool.or_eq_true] at h2;rcases h2 with h2 | h2
     . exact h4.1 h2
     . rw [qZ] at h2;cases h2
def su (n : Nat) (listed : Array Bool) (m : Nat) : Prop:=listed.size = n /\ ∀ i,listed.getD i false = m.testBit i
def tZ (md : Region.Mode) (m : Nat) : List Oper -> Nat -> List Nat
 | [],_=>[]
 | o :: os,k=>bif !m.testBit k && o.after.toList.all (fun e=>!Region.binds md e || m.testBit e.on) then k :: tZ md m os (k + 1) else tZ md m os (k + 1)
def DI (md : Region.Mode) (ops : Array Oper) (m : Nat) (oi : Oper) (i : Nat) : List Oper -> Nat -> Bool
 | [],_=>true
 | oj :: os,j=>(j == i || m.testBit j || (oj.after.toList.any (fun e=>Region.binds md e && e.on == i) || oi.apart ops oj)) && DI md ops m oi i os (j + 1)
def Jl (md : Region.Mode) (ops : Array Oper) (m i : Nat) : Bool:=match ops[i]? with
 | none=>false
 | some oi=>DI md ops m oi i ops.toList 0
def yb (md : Region.Mode) (ops : Array Oper) (J : Nat -> Bool) : List (Nat × Bool) -> Nat -> Bool
 | [],m=>(tZ md m ops.toList 0).isEmpty
 | (i,true) :: rest,m=>solo (tZ md m ops.toList 0) i (Jl md ops m i && waits md ops J i) && (Nat.blt i ops.size && yb md ops J rest (m ||| 2 ^ i))
 | (i,false) :: rest,m=>tZ md m ops.toList 0 == [i] && (J i || !rest.any (·.2)) && (Nat.blt i ops.size && yb md ops J rest (m ||| 2 ^ i))
theorem aio (m : Nat) : ∀ (os : List Oper) (k : Nat) (f : Nat -> Bool),(∀ j (hj : j < os.length),f (k + j) = (!m.testBit (k + j) && os[j].after.toList.all (fun e=>!Region.binds md e || m.testBit e.on))) -> tZ md m os k = (List.range' k os.length).filter f:=by
 intro os;induction os with
 | nil=>intro k f _;rfl
 | cons o os ih =>
   intro k f h;have h0:=h 0 zm
   have h1:=ih (k + 1) f (fun j hj=>by
    have:=h (j + 1) zi;rw [show k + (j + 1) = k + 1 + j by omega] at this
    simpa using this)
   rw [Nat.add_zero] at h0;simp only [List.getElem_cons_zero] at h0;rw [List.length_cons,List.range'_succ,List.filter_cons];unfold tZ;rw [h1,h0];cases (!m.testBit k && o.after.toList.all (fun e=>!Region.binds md e || m.testBit e.on))<;>rfl
theorem adL (m : Nat) (oi : Oper) (i : Nat) : ∀ (os : List Oper) (k : Nat) (f : Nat -> Bool),(∀ j (hj : j < os.length),f (k + j) = (k + j == i || m.testBit (k + j) || (os[j].after.toList.any (fun e=>Region.binds md e && e.on == i) || oi.apart ops os[j]))) -> DI md ops m oi i os k = (List.range' k os.length).all f:=by
 intro os;induction os with
 | nil=>intro k f _;rfl
 | cons o os ih =>
   intro k f h;have h0:=h 0 zm
   have h1:=ih (k + 1) f (fun j hj=>by
    have:=h (j + 1) zi;rw [show k + (j + 1) = k + 1 + j by omega] at this
    simpa using this)
   rw [Nat.add_zero] at h0;simp only [List.getElem_cons_zero] at h0;rw [List.length_cons,List.range'_succ,List.all_cons];unfold DI;rw [h1,h0]
theorem su.bit {n : Nat} {listed : Array Bool} {m i : Nat} (h : su n listed m) (hi : i < n) : listed.getD i true = m.testBit i:=by
 rw [<- h.2 i];have : i < listed.size:=by rw [h.1];exact hi
 simp [Array.getD,this]
theorem su.set {n : Nat} {listed : Array Bool} {m i : Nat} (h : su n listed m) (hi : i < n) : su n (listed.setIfInBounds i true) (m ||| 2 ^ i):=by
 refine ⟨by simp [h.1],fun j=>?_⟩;rw [Nat.testBit_or,<- h.2 j,Nat.testBit_two_pow];by_cases hij : i = j
 . subst hij;have : i < listed.size:=by rw [h.1];exact hi
   simp [Array.getD,this]
 . rw [getD_set_ne false hij];simp [hij]
theorem Mj {listed : Array Bool} {m : Nat} (h : su ops.size listed m) : Region.ready md ops listed = tZ md m ops.toList 0:=by
 rw [aio m ops.toList 0 (fun i=>!listed.getD i true && ((ops[i]?).map (·.after.all fun e=>!Region.binds md e || listed.getD e.on false)).getD false)]
 . unfold Region.ready;rw [List.range_eq_range',Array.length_toList]
 . intro j hj;rw [Array.length_toList] at hj;rw [Nat.zero_add,h.bit hj,Array.getElem?_eq_getElem hj,Option.map_some,Option.getD_some,Array.getElem_toList,<- Array.all_toList];simp only [h.2]
theorem adM {listed : Array Bool} {m i : Nat} (h : su ops.size listed m) : Region.free md ops listed i = Jl md ops m i:=by
 unfold Region.free Jl;cases hi : ops[i]? with
 | none=>rfl
 | some oi =>
   simp only
   rw [adL m oi i ops.toList 0 (fun j=>j == i || listed.getD j true || match ops[j]? with
    | some oj=>oj.after.any (fun e=>Region.binds md e && e.on == i) || oi.apart ops oj
    | none=>true)]
   . rw [List.range_eq_range',Array.length_toList];rfl
   . intro j hj;rw [Array.length_toList] at hj;rw [Nat.zero_add,h.bit hj,Array.getElem?_eq_getElem hj,Array.getElem_toList];show (j == i || m.testBit j || (ops[j].after.any (fun e=>Region.binds md e && e.on == i) || oi.apart ops ops[j])) = _
     rw [<- Array.any_toList]
theorem ahR (plan : List (Nat × Bool)) : ∀ (listed : Array Bool) (m : Nat),su ops.size listed m -> yb md ops J plan m = true -> rG md ops J plan listed = true:=by
 induction plan with
 | nil=>intro listed m h hok;unfold rG;rw [Mj h];exact hok
 | cons x rest ih =>
   obtain ⟨i,b⟩:=x;intro listed m h hok;cases b with
   | true =>simp only [yb,Bool.and_eq_true] at hok;simp only [rG,Bool.and_eq_true];rw [Mj h,adM h];exact ⟨hok.1,ih _ _ (h.set (by simpa using hok.2.1)) hok.2.2⟩
   | false =>simp only [yb,Bool.and_eq_true] at hok;simp only [rG,Bool.and_eq_true];rw [Mj h];exact ⟨hok.1,ih _ _ (h.set (by simpa using hok.2.1)) hok.2.2⟩
theorem akk {id : Nat} {a : Act} {w : World} (S : World -> Prop) (J : Nat -> Bool) (plan : List (Nat × Bool)) (hm : P.follows .mixedOrders = true) (hs : Region.noSelect ops = true)
 (hl : plan.length = ops.size) (hok : yb .any ops J plan 0 = true)
 (hQ : ∀ (o : Oper) c a v w,Q (.panic c) (a.put o.dst v) w -> Q (.panic c) a w) (hS : S w.drew) (h : aU P ops Q S J plan a w.drew) : (Code.region id ops true).wp P Q a w:=by
 refine wp_region_any hm (Ch ops.size _ _ _ ?_ (S:=S) (J:=J))
 have:=akf (md:=.any) (S:=S) (J:=J) hs hQ plan (Array.replicate ops.size false) a w.drew (Closed.empty _) (ahR plan _ 0 ⟨by simp,fun i=>by rw [Nat.zero_testBit,Array.getD_eq_getD_getElem?,Array.getElem?_replicate];split<;>rfl⟩ hok) (fun _=>hS) h
 rw [hl] at this;exact this
end
end Go.Proofs.YtdaadlblknpipaaGreatDoor
