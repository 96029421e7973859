/- A statement whose order is open,walked in one order: what only reads is taken first;S is asked behind each operation but the last ones (J),for which everything else waits. -/
import Derived.Test.YtdaadlblknpipaaGreatDoorZ6
import Derived.OrdersHeld
import Derived.Test.YtdaadlblknpipaaGreatDoorZ5
set_option linter.unusedVariables false
set_option linter.unusedSimpArgs false
set_option maxRecDepth 100000
set_option maxHeartbeats 16000000
namespace Go.Proofs.YtdaadlblknpipaaGreatDoor
open Go.RowKit
theorem U1 {α:Type}(l:List α)(i:Nat)(a:α):l.toArray.setIfInBounds i a=(l.set i a).toArray:=by simp
theorem U2 {α:Type}(x:α)(l:List α)(a:α):(x::l).set 0 a=a::l:=rfl
theorem U3 {α:Type}(x:α)(l:List α)(i:Nat)(a:α):(x::l).set (i+1) a=x::l.set i a:=rfl
section
variable {P:Program} {md:Region.Mode} {ops:Array Oper} {Q:Exit->Act->World->Prop} {S:World->Prop} {J:Nat->Bool}
def rq (P:Program)(md:Region.Mode)(ops:Array Oper)(Q:Exit->Act->World->Prop)(S:World->Prop)(J:Nat->Bool):Nat->Array Bool->Act->World->Prop
 |0,listed,a,w=>Region.ready md ops listed=[]/\Q .normal a w
 | fuel+1,listed,a,w=>
   (Region.ready md ops listed=[]->Q .normal a w)/\
   ∀i∈Region.ready md ops listed,wpOp P ops Q i (λa' w'=>(J i=true->S w')/\rq P md ops Q S J fuel (listed.setIfInBounds i true) a' w') a w
theorem Du (fuel:Nat):∀(listed:Array Bool) (a:Act) (w:World),rq P md ops Q S J fuel listed a w->wpAny P md ops Q fuel listed a w:=by
 induction fuel with
 |zero=>intro _ _ _ h;exact h
 |succ n ih=>intro _ _ _ h;exact⟨h.1,λi hi=>wpOp_mono (λa' w' h'=>ih _ a' w' h'.2) (h.2 i hi)⟩
def reach (md:Region.Mode)(ops:Array Oper)(i:Nat):Nat->Nat->Bool
 |0,_=>false
 | n+1,j=>match ops[j]? with
   |some oj=>oj.after.any λe=>Region.binds md e&&(e.on==i||reach md ops i n e.on)
   |none=>false
def waits (md:Region.Mode)(ops:Array Oper)(J:Nat->Bool)(i:Nat):Bool:=
 (List.range ops.size).all λj=>j==i||J j||reach md ops i ops.size j
def Closed (md:Region.Mode)(ops:Array Oper)(listed:Array Bool):Prop:=
 ∀(k:Nat) (ok:Oper),listed.getD k false=true->ops[k]?=some ok->∀e∈ok.after,Region.binds md e=true->listed.getD e.on false=true
theorem Closed.empty (n:Nat):Closed md ops (Array.replicate n false):=by
 intro k ok h;exfalso
 rw[Array.getD_eq_getD_getElem?,Array.getElem?_replicate]at h;split at h<;>simp at h
theorem Closed.list {listed:Array Bool}(h:Closed md ops listed){j:Nat}(hj:j∈Region.ready md ops listed):Closed md ops (listed.setIfInBounds j true):=by
 obtain⟨LJ,oj,kD,hall⟩:=mem_ready.1 hj;have up:∀n,listed.getD n false=true->(listed.setIfInBounds j true).getD n false=true:=by
  intro n hn;by_cases hjn:j=n
  . subst hjn;rcases Nat.lt_or_ge j listed.size with h'|h'
    . simp[h']
    . simp[Array.getD_eq_getD_getElem?,Array.getElem?_eq_none h']at hn
  . rw[getD_set_ne false hjn];exact hn
 intro k ok hk hok e he hb;by_cases hjk:j=k
 . subst hjk;rw[kD]at hok;cases hok
   exact up _ (hall e he hb)
 . rw[getD_set_ne false hjk]at hk;exact up _ (h k ok hk hok e he hb)
theorem aiN {listed:Array Bool}(hc:Closed md ops listed){i:Nat}(n:Nat):∀(j:Nat) (oj:Oper),ops[j]?=some oj->(∀e∈oj.after,Region.binds md e=true->listed.getD e.on false=true)->reach md ops i n j=true->listed.getD i false=true:=by
 induction n with
 |zero=>intro j oj _ _ h;cases h
 | succ n ih=>
   intro j oj kD hall h;unfold reach at h;rw[kD]at h;simp only at h;rw[Array.any_eq_true]at h;obtain⟨k,hk,h2⟩:=h;simp only[Bool.and_eq_true,Bool.or_eq_true,beq_iff_eq]at h2;have h3:=hall _ (Array.getElem_mem hk) h2.1;rcases h2.2 with h4|h4
   . rw[<-h4];exact h3
   . cases ho:ops[oj.after[k].on]? with
     | none=>
       cases n with
       |zero=>cases h4
       |succ m=>unfold reach at h4;rw[ho]at h4;cases h4
     |some ok=>exact ih _ ok ho (hc _ ok h3 ho) h4
theorem akB {listed:Array Bool}(hc:Closed md ops listed){i:Nat}(h:waits md ops J i=true)(yD:listed.getD i true=false){j:Nat}(hj:j∈Region.ready md ops listed)(hne:j≠i):J j=true:=by
 obtain⟨LJ,oj,kD,hall⟩:=mem_ready.1 hj;unfold waits at h;rw[List.all_eq_true]at h;have h1:=h j (List.mem_range.2 (Array.getElem?_eq_some_iff.1 kD).1);simp only[Bool.or_eq_true,beq_iff_eq]at h1;rcases h1 with(h1|h1) |h1
 . exact absurd h1 hne
 . exact h1
 . have h2:=aiN hc _ j oj kD hall h1;rcases Nat.lt_or_ge i listed.size with h'|h'
   . simp[h']at yD h2;rw[yD]at h2;cases h2
   . simp[Array.getD_eq_getD_getElem?,Array.getElem?_eq_none h']at h2
theorem Ds {i:Nat}{oi:Oper}{v:Value}(hi:ops[i]?=some oi)(pK:∀(j:Nat) (o:Oper) cs b,ops[j]?=some o->o.op≠ .select cs b)
 (hQ:∀c a w,Q (.panic c) (a.put oi.dst v) w->Q (.panic c) a w) (hJ:waits md ops J i=true) (fuel:Nat):
 ∀(listed:Array Bool) (a:Act) (w:World),Closed md ops listed->Region.free md ops listed i=true->i∈Region.ready md ops listed->YieldsIf P ops S oi v a->S w->
  rq P md ops Q S J fuel (listed.setIfInBounds i true) (a.put oi.dst v) w->rq P md ops Q S J (fuel+1) listed a w:=by
 induction fuel with
 | zero=>
   intro listed a w _ _ hr hy hS H;refine⟨λh=>(by rw[h]at hr;cases hr),λj hj=>?_⟩;by_cases hji:j=i
   . subst hji;exact hy.wpOp hi hS ⟨λ_=>hS,H⟩
   . have:=ready_mono hj hji;rw[H.1]at this;cases this
 | succ n ih=>
   intro listed a w hc hf hr hy hS H;refine⟨λh=>(by rw[h]at hr;cases hr),λj hj=>?_⟩;by_cases hji:j=i
   . subst hji;exact hy.wpOp hi hS ⟨λ_=>hS,H⟩
   . have h1:=H.2 j (ready_mono hj hji);obtain⟨LJ,oj,kD,hall⟩:=mem_ready.1 hj;have yD:=(mem_ready.1 hr).1;have afn:∀e∈oj.after,Region.binds md e=true->e.on≠i:=by
      intro e he hb heq;have h2:=hall e he hb;rw[heq]at h2;rcases Nat.lt_or_ge i listed.size with h'|h'
      . simp[h']at yD h2;rw[yD]at h2;cases h2
      . simp[Array.getElem?_eq_none h']at h2
     have hjJ:J j=true:=akB hc hJ yD hj hji;have h2:=wpOp_putIf kD (Region.free_spec hi hf j oj kD hji LJ afn) (λcs b=>pK i oi cs b hi) (λcs b=>pK j oj cs b kD) hQ hy h1;have hf':Region.free md ops (listed.setIfInBounds j true) i=true:=by
      unfold Region.free at hf⊢;rw[hi]at hf⊢;simp only[List.all_eq_true]at hf⊢;intro k hk;have:=hf k hk;simp only[Bool.or_eq_true]at this⊢;rcases this with(h3|h3) |h3
      . exact .inl (.inl h3)
      . refine .inl (.inr ?_);by_cases hjk:j=k
        . subst hjk;rcases Nat.lt_or_ge j listed.size with h'|h'
          . simp[h']
          . simp
        . rw[getD_set_ne true hjk];exact h3
      . exact .inr h3
     refine wpOp_mono (λa' w' h3=>⟨h3.2.1,ih (listed.setIfInBounds j true) a' w' (hc.list hj) hf' (ready_mono hr (Ne.symm hji)) h3.1 (h3.2.1 hjJ) ?_⟩) h2;rw[Array.setIfInBounds_comm _ _ hji];exact h3.2.2
def qY (md:Region.Mode)(ops:Array Oper)(J:Nat->Bool):List (Nat×Bool)->Array Bool->Bool
 |[],listed=>(Region.ready md ops listed).isEmpty
 | (i,true)::rest,listed=>(Region.ready md ops listed).contains i&&Region.free md ops listed i&&waits md ops J i&&qY md ops J rest (listed.setIfInBounds i true)
 | (i,false)::rest,listed=>Region.ready md ops listed==[i]&&(J i|| !rest.any (·.2))&&qY md ops J rest (listed.setIfInBounds i true)
def aU (P:Program)(ops:Array Oper)(Q:Exit->Act->World->Prop)(S:World->Prop)(J:Nat->Bool):List (Nat×Bool)->Act->World->Prop
 |[],a,w=>Q .normal a w
 | (i,true)::rest,a,w=>∃o v,ops[i]?=some o/\YieldsIf P ops S o v a/\aU P ops Q S J rest (a.put o.dst v) w
 | (i,false)::rest,a,w=>wpOp P ops Q i (λa' w'=>(J i=true->S w')/\aU P ops Q S J rest a' w') a w
theorem Dt (hs:Region.noSelect ops=true)(hQ:∀(o:Oper) c a v w,Q (.panic c) (a.put o.dst v) w->Q (.panic c) a w)(plan:List (Nat×Bool)):
 ∀(listed:Array Bool) (a:Act) (w:World),Closed md ops listed->qY md ops J plan listed=true->(plan.any (·.2)=true->S w)->aU P ops Q S J plan a w->rq P md ops Q S J plan.length listed a w:=by
 induction plan with
 |nil=>intro listed a w _ hok _ h;exact⟨List.isEmpty_iff.1 hok,h⟩
 | cons x rest ih=>
   obtain⟨i,b⟩:=x;intro listed a w hc hok hS h;cases b with
   |true=>simp only[qY,Bool.and_eq_true]at hok;obtain⟨⟨⟨h1,h2⟩,h3⟩,h4⟩:=hok;obtain⟨o,v,ho,hy,h⟩:=h;have hSw:S w:=hS zm;exact Ds ho (Region.noSelect_spec hs) (λc a w=>hQ o c a v w) h3 rest.length listed a w hc h2 (by simpa using h1) hy hSw (ih _ _ _ (hc.list (by simpa using h1)) h4 (λ_=>hSw) h)
   | false=>
     simp only[qY,Bool.and_eq_true,beq_iff_eq]at hok;obtain⟨⟨h1,h2⟩,h3⟩:=hok;refine⟨λh0=>(by rw[h1]at h0;cases h0),λj hj=>?_⟩;rw[h1]at hj;obtain rfl:j=i:=by simpa using hj
     refine wpOp_mono (λa' w' h4=>⟨h4.1,ih _ _ _ (hc.list (by rw[h1];exact List.mem_singleton.2 rfl)) h3 (λsf=>?_) h4.2⟩) h;rw[Bool.or_eq_true]at h2;rcases h2 with h2|h2
     . exact h4.1 h2
     . rw[sf]at h2;cases h2
theorem bD {id:Nat}{a:Act}{w:World}(S:World->Prop)(J:Nat->Bool)(plan:List (Nat×Bool))(hm:P.follows .mixedOrders=true)(hs:Region.noSelect ops=true)
 (hl:plan.length=ops.size) (hok:qY .any ops J plan (Array.replicate ops.size false)=true)
 (hQ:∀(o:Oper) c a v w,Q (.panic c) (a.put o.dst v) w->Q (.panic c) a w) (hS:S w.drew) (h:aU P ops Q S J plan a w.drew):(Code.region id ops true).wp P Q a w:=by
 refine wp_region_any hm (Du ops.size _ _ _ ?_ (S:=S) (J:=J));have:=Dt (md:=.any) (S:=S) (J:=J) hs hQ plan (Array.replicate ops.size false) a w.drew (Closed.empty _) hok (λ_=>hS) h;rw[hl]at this;exact this
theorem Nn {i:Nat}{rest:List (Nat×Bool)}{o:Oper}{v:Value}{a:Act}{w:World}(ho:ops.toList[i]?=some o)(hw:Region.wanted o (yielded ops a.tmps)=true)
 (hy:∀w',S w'->(execOp a.eval o).run P w'=.ok (.value v) w') (h:aU P ops Q S J rest (a.put o.dst v) w):aU P ops Q S J ((i,true)::rest) a w:=
 ⟨o,v,by rw[<-Array.getElem?_toList];exact ho,.inl ⟨hw,hy⟩,h⟩
theorem pT {i:Nat} {rest:List (Nat×Bool)} {o:Oper} {v:Value} {a:Act} {w:World} (ho:ops.toList[i]?=some o) (hw:Region.wanted o (yielded ops a.tmps)=true)
  (h:aU P ops Q S J rest (a.put o.dst v) w) (hy:∀w',S w'->(execOp a.eval o).run P w'=.ok (.value v) w':=by(intro w' hw';go_simp;try with_reducible rfl)):aU P ops Q S J ((i,true)::rest) a w:=Nn ho hw hy h
theorem UU :(∀(a:Act) (d:Nat) (v:Value),a.put (some d) v=⟨a.tmps.setIfInBounds d v,a.defers⟩)/\(∀(a:Act) (v:Value),a.put none v=a)/\(∀(α:Type) (l:List α) (i:Nat) (a:α),l.toArray.setIfInBounds i a=(l.set i a).toArray)/\(∀(α:Type) (x:α) (l:List α) (a:α),(x::l).set 0 a=a::l)/\(∀(α:Type) (x:α) (l:List α) (i:Nat) (a:α),(x::l).set (i+1) a=x::l.set i a):=⟨λ_ _ _=>rfl,λ_ _=>rfl,λ_ l i a=>U1 l i a,λ_ _ _ _=>rfl,λ_ _ _ _ _=>rfl⟩
theorem aJ {i:Nat}{rest:List (Nat×Bool)}{o:Oper}{a:Act}{w:World}(ho:ops.toList[i]?=some o)(hw:Region.wanted o (yielded ops a.tmps)=true)
 (h:∀K:Act->World->Prop,(∀a' w',(J i=true->S w')->aU P ops Q S J rest a' w'->K a' w')->o.wp P a w K Q):aU P ops Q S J ((i,false)::rest) a w:=by
 show wpOp P ops Q i _ a w
 rw[Array.getElem?_toList]at ho;unfold wpOp;simp only[ho,hw,if_true];exact .inl (h _ (λa' w' h1 h2=>⟨h1,h2⟩))
theorem bE {plan:List (Nat×Bool)}{a:Act}{W:World}(R:World->Prop)(hR:R W)(h:∀W',R W'->aU P ops Q S J plan a W'):aU P ops Q S J plan a W:=h W hR
end
theorem aH {w:World}{p a:Addr}{u v:Value}(hne:a.block≠p.block\/a.off≠p.off)(h:w.cell? a=some v):(w.setCell p u).cell? a=some v:=by rw[World.cell?_setCell_other w p a u (λe=>by subst e;rcases hne with h|h<;>exact h rfl)];exact h
section
variable {P:Program} {md:Region.Mode} {ops:Array Oper} {Q:Exit->Act->World->Prop} {S:World->Prop} {J:Nat->Bool}
def CW (md:Region.Mode)(ops:Array Oper)(J:Nat->Bool)(i j:Nat)(p1 p2:List (Nat×Bool)):List Nat->Array Bool->Bool
 |[],listed=>Region.ready md ops listed==[i,j]&&qY md ops J p1 (listed.setIfInBounds i true)&&qY md ops J p2 (listed.setIfInBounds j true)
 |x::pre,listed=>(Region.ready md ops listed).contains x&&Region.free md ops listed x&&waits md ops J x&&CW md ops J i j p1 p2 pre (listed.setIfInBounds x true)
def zL (P:Program)(ops:Array Oper)(Q:Exit->Act->World->Prop)(S:World->Prop)(J:Nat->Bool)(i j:Nat)(p1 p2:List (Nat×Bool)):List Nat->Act->World->Prop
 |[],a,w=>wpOp P ops Q i (λa1 w1=>S w1/\aU P ops Q S J p1 a1 w1) a w/\wpOp P ops Q j (λa1 w1=>S w1/\aU P ops Q S J p2 a1 w1) a w
 |x::pre,a,w=>∃o v,ops[x]?=some o/\YieldsIf P ops S o v a/\zL P ops Q S J i j p1 p2 pre (a.put o.dst v) w
theorem akH (hs:Region.noSelect ops=true)(hQ:∀(o:Oper) c a v w,Q (.panic c) (a.put o.dst v) w->Q (.panic c) a w)(i j:Nat)(p1 p2:List (Nat×Bool))(hl:p2.length=p1.length)(pre:List Nat):
 ∀(listed:Array Bool) (a:Act) (w:World),Closed md ops listed->CW md ops J i j p1 p2 pre listed=true->S w->zL P ops Q S J i j p1 p2 pre a w->rq P md ops Q S J (p1.length+1+pre.length) listed a w:=by
 induction pre with
 | nil=>
   intro listed a w hc hok _ h;simp only[CW,Bool.and_eq_true,beq_iff_eq]at hok;obtain⟨⟨h1,h2⟩,h3⟩:=hok;have mi:i∈Region.ready md ops listed:=by rw[h1];simp
   have mj:j∈Region.ready md ops listed:=by rw[h1];simp
   refine⟨λh0=>(by rw[h1]at h0;cases h0),λk hk=>?_⟩;rw[h1]at hk;simp only[List.mem_cons,List.not_mem_nil,or_false]at hk;rcases hk with rfl|rfl
   . exact wpOp_mono (λa1 w1 q=>⟨λ_=>q.1,Dt hs hQ p1 _ _ _ (hc.list mi) h2 (λ_=>q.1) q.2⟩) h.1
   . refine wpOp_mono (λa1 w1 q=>⟨λ_=>q.1,?_⟩) h.2;have:=Dt hs hQ p2 _ _ _ (hc.list mj) h3 (λ_=>q.1) q.2;rw[hl]at this;exact this
 |cons x pre ih=>intro listed a w hc hok hS h;simp only[CW,Bool.and_eq_true]at hok;obtain⟨⟨⟨h1,h2⟩,h3⟩,h4⟩:=hok;obtain⟨o,v,ho,hy,h⟩:=h;exact Ds ho (Region.noSelect_spec hs) (λc a w=>hQ o c a v w) h3 (p1.length+1+pre.length) listed a w hc h2 (by simpa using h1) hy hS (ih _ _ _ (hc.list (by simpa using h1)) h4 hS h)
theorem GM {id:Nat}{a:Act}{w:World}(S:World->Prop)(J:Nat->Bool)(i j:Nat)(p1 p2:List (Nat×Bool))(pre:List Nat)(hm:P.follows .mixedOrders=true)(hs:Region.noSelect ops=true)
 (hl:p1.length+1+pre.length=ops.size) (hl2:p2.length=p1.length) (hok:CW .any ops J i j p1 p2 pre (Array.replicate ops.size false)=true)
 (hQ:∀(o:Oper) c a v w,Q (.panic c) (a.put o.dst v) w->Q (.panic c) a w) (hS:S w.drew) (h:zL P ops Q S J i j p1 p2 pre a w.drew):(Code.region id ops true).wp P Q a w:=by
 refine wp_region_any hm (Du ops.size _ _ _ ?_ (S:=S) (J:=J));have:=akH (md:=.any) (S:=S) (J:=J) hs hQ i j p1 p2 hl2 pre (Array.replicate ops.size false) a w.drew (Closed.empty _) hok hS h;rw[hl]at this;exact this
theorem Gu {i j x:Nat}{p1 p2:List (Nat×Bool)}{pre:List Nat}{o:Oper}{v:Value}{a:Act}{w:World}(ho:ops.toList[x]?=some o)(hw:Region.wanted o (yielded ops a.tmps)=true)
 (hy:∀w',S w'->(execOp a.eval o).run P w'=.ok (.value v) w') (h:zL P ops Q S J i j p1 p2 pre (a.put o.dst v) w):zL P ops Q S J i j p1 p2 (x::pre) a w:=
 ⟨o,v,by rw[<-Array.getElem?_toList];exact ho,.inl ⟨hw,hy⟩,h⟩
theorem Gt {i j:Nat}{p1 p2:List (Nat×Bool)}{oi oj:Oper}{a:Act}{w:World}(hoi:ops.toList[i]?=some oi)(kD:ops.toList[j]?=some oj)(iX:Region.wanted oi (yielded ops a.tmps)=true)(un:Region.wanted oj (yielded ops a.tmps)=true)
 (h1:∀K:Act->World->Prop,(∀a' w',S w'->aU P ops Q S J p1 a' w'->K a' w')->oi.wp P a w K Q) (h2:∀K:Act->World->Prop,(∀a' w',S w'->aU P ops Q S J p2 a' w'->K a' w')->oj.wp P a w K Q):zL P ops Q S J i j p1 p2 [] a w:=by
 rw[Array.getElem?_toList]at hoi kD;refine⟨?_,?_⟩
 . unfold wpOp;simp only[hoi,iX,if_true];exact .inl (h1 _ (λa' w' q1 q2=>⟨q1,q2⟩))
 . unfold wpOp;simp only[kD,un,if_true];exact .inl (h2 _ (λa' w' q1 q2=>⟨q1,q2⟩))
end
inductive PT where
 |lin (p:List (Nat×Bool))
 |rd (x:Nat) (t:PT)
 |br (i j:Nat) (t1 t2:PT)
 |tr (i j k:Nat) (t1 t2 t3:PT)
def PT.size :PT->Nat
 | .lin p=>p.length
 | .rd _ t=>t.size+1
 | .br _ _ t1 _=>t1.size+1
 | .tr _ _ _ t1 _ _=>t1.size+1
section
variable {P:Program} {md:Region.Mode} {ops:Array Oper} {Q:Exit->Act->World->Prop} {S:World->Prop} {J:Nat->Bool}
def pN (md:Region.Mode)(ops:Array Oper)(J:Nat->Bool):PT->Array Bool->Bool
 | .lin p,listed=>qY md ops J p listed
 | .rd x t,listed=>(Region.ready md ops listed).contains x&&Region.free md ops listed x&&waits md ops J x&&pN md ops J t (listed.setIfInBounds x true)
 | .br i j t1 t2,listed=>Region.ready md ops listed==[i,j]&&t1.size==t2.size&&J i&&J j&&pN md ops J t1 (listed.setIfInBounds i true)&&pN md ops J t2 (listed.setIfInBounds j true)
 | .tr i j k t1 t2 t3,listed=>Region.ready md ops listed==[i,j,k]&&t1.size==t2.size&&t1.size==t3.size&&pN md ops J t1 (listed.setIfInBounds i true)&&pN md ops J t2 (listed.setIfInBounds j true)&&pN md ops J t3 (listed.setIfInBounds k true)
def kO (P:Program)(ops:Array Oper)(Q:Exit->Act->World->Prop)(S:World->Prop)(J:Nat->Bool):PT->Act->World->Prop
 | .lin p,a,w=>aU P ops Q S J p a w
 | .rd x t,a,w=>∃o v,ops[x]?=some o/\YieldsIf P ops S o v a/\kO P ops Q S J t (a.put o.dst v) w
 | .br i j t1 t2,a,w=>wpOp P ops Q i (λa1 w1=>S w1/\kO P ops Q S J t1 a1 w1) a w/\wpOp P ops Q j (λa1 w1=>S w1/\kO P ops Q S J t2 a1 w1) a w
 | .tr i j k t1 t2 t3,a,w=>wpOp P ops Q i (λa1 w1=>S w1/\kO P ops Q S J t1 a1 w1) a w/\wpOp P ops Q j (λa1 w1=>S w1/\kO P ops Q S J t2 a1 w1) a w/\wpOp P ops Q k (λa1 w1=>S w1/\kO P ops Q S J t3 a1 w1) a w
theorem akJ (hs:Region.noSelect ops=true)(hQ:∀(o:Oper) c a v w,Q (.panic c) (a.put o.dst v) w->Q (.panic c) a w)(t:PT):
 ∀(listed:Array Bool) (a:Act) (w:World),Closed md ops listed->pN md ops J t listed=true->S w->kO P ops Q S J t a w->rq P md ops Q S J t.size listed a w:=by
 induction t with
 |lin p=>intro listed a w hc hok hS h;exact Dt hs hQ p _ _ _ hc hok (λ_=>hS) h
 | br i j t1 t2 ih1 ih2=>
   intro listed a w hc hok _ h;simp only[pN,Bool.and_eq_true,beq_iff_eq]at hok;obtain⟨⟨⟨⟨⟨h1,hsz⟩,_⟩,_⟩,h2⟩,h3⟩:=hok;have mi:i∈Region.ready md ops listed:=by rw[h1];simp
   have mj:j∈Region.ready md ops listed:=by rw[h1];simp
   refine⟨λh0=>(by rw[h1]at h0;cases h0),λk hk=>?_⟩;rw[h1]at hk;simp only[List.mem_cons,List.not_mem_nil,or_false]at hk;rcases hk with rfl|rfl
   . exact wpOp_mono (λa1 w1 q=>⟨λ_=>q.1,ih1 _ _ _ (hc.list mi) h2 q.1 q.2⟩) h.1
   . refine wpOp_mono (λa1 w1 q=>⟨λ_=>q.1,?_⟩) h.2;have:=ih2 _ _ _ (hc.list mj) h3 q.1 q.2;rw[<-hsz]at this;exact this
 | tr i j k t1 t2 t3 ih1 ih2 ih3=>
   intro listed a w hc hok _ h;simp only[pN,Bool.and_eq_true,beq_iff_eq]at hok;obtain⟨⟨⟨⟨⟨h1,hs2⟩,hs3⟩,h2⟩,h3⟩,h4⟩:=hok;have mi:i∈Region.ready md ops listed:=by rw[h1];simp
   have mj:j∈Region.ready md ops listed:=by rw[h1];simp
   have mk:k∈Region.ready md ops listed:=by rw[h1];simp
   refine⟨λh0=>(by rw[h1]at h0;cases h0),λl hl=>?_⟩;rw[h1]at hl;simp only[List.mem_cons,List.not_mem_nil,or_false]at hl;rcases hl with rfl|rfl|rfl
   . exact wpOp_mono (λa1 w1 q=>⟨λ_=>q.1,ih1 _ _ _ (hc.list mi) h2 q.1 q.2⟩) h.1
   . refine wpOp_mono (λa1 w1 q=>⟨λ_=>q.1,?_⟩) h.2.1;have:=ih2 _ _ _ (hc.list mj) h3 q.1 q.2;rw[<-hs2]at this;exact this
   . refine wpOp_mono (λa1 w1 q=>⟨λ_=>q.1,?_⟩) h.2.2;have:=ih3 _ _ _ (hc.list mk) h4 q.1 q.2;rw[<-hs3]at this;exact this
 |rd x t ih=>intro listed a w hc hok hS h;simp only[pN,Bool.and_eq_true]at hok;obtain⟨⟨⟨h1,h2⟩,h3⟩,h4⟩:=hok;obtain⟨o,v,ho,hy,h⟩:=h;exact Ds ho (Region.noSelect_spec hs) (λc a w=>hQ o c a v w) h3 t.size listed a w hc h2 (by simpa using h1) hy hS (ih _ _ _ (hc.list (by simpa using h1)) h4 hS h)
theorem Oq {id:Nat}{a:Act}{w:World}(S:World->Prop)(J:Nat->Bool)(t:PT)(hm:P.follows .mixedOrders=true)(hs:Region.noSelect ops=true)
 (hl:t.size=ops.size) (hok:pN .any ops J t (Array.replicate ops.size false)=true)
 (hQ:∀(o:Oper) c a v w,Q (.panic c) (a.put o.dst v) w->Q (.panic c) a w) (hS:S w.drew) (h:kO P ops Q S J t a w.drew):(Code.region id ops true).wp P Q a w:=by
 refine wp_region_any hm (Du ops.size _ _ _ ?_ (S:=S) (J:=J));have:=akJ (md:=.any) (S:=S) (J:=J) hs hQ t (Array.replicate ops.size false) a w.drew (Closed.empty _) hok hS h;rw[hl]at this;exact this
theorem Ww {x:Nat}{t:PT}{o:Oper}{v:Value}{a:Act}{w:World}(ho:ops.toList[x]?=some o)(hw:Region.wanted o (yielded ops a.tmps)=true)
 (hy:∀w',S w'->(execOp a.eval o).run P w'=.ok (.value v) w') (h:kO P ops Q S J t (a.put o.dst v) w):kO P ops Q S J (.rd x t) a w:=
 ⟨o,v,by rw[<-Array.getElem?_toList];exact ho,.inl ⟨hw,hy⟩,h⟩
theorem Gv {i j:Nat}{t1 t2:PT}{oi oj:Oper}{a:Act}{w:World}(hJi:J i=true)(hJj:J j=true)(hoi:ops.toList[i]?=some oi)(kD:ops.toList[j]?=some oj)(iX:Region.wanted oi (yielded ops a.tmps)=true)(un:Region.wanted oj (yielded ops a.tmps)=true)
 (h1:∀K:Act->World->Prop,(∀a' w',(J i=true->S w')->kO P ops Q S J t1 a' w'->K a' w')->oi.wp P a w K Q) (h2:∀K:Act->World->Prop,(∀a' w',(J j=true->S w')->kO P ops Q S J t2 a' w'->K a' w')->oj.wp P a w K Q):kO P ops Q S J (.br i j t1 t2) a w:=by
 rw[Array.getElem?_toList]at hoi kD;refine⟨?_,?_⟩
 . unfold wpOp;simp only[hoi,iX,if_true];exact .inl (h1 _ (λa' w' q1 q2=>⟨q1 hJi,q2⟩))
 . unfold wpOp;simp only[kD,un,if_true];exact .inl (h2 _ (λa' w' q1 q2=>⟨q1 hJj,q2⟩))
theorem Wx {t:PT}{a:Act}{W:World}(R:World->Prop)(hR:R W)(h:∀W',R W'->kO P ops Q S J t a W'):kO P ops Q S J t a W:=h W hR
theorem xm {p:List (Nat×Bool)}{a:Act}{w:World}(h:aU P ops Q S J p a w):kO P ops Q S J (.lin p) a w:=h
end
def iL (cs:List (Addr×Value))(w:World):Prop:=∀p∈cs,w.cell? p.1=some p.2
theorem iL.below {cs:List (Addr×Value)}{w w':World}(h:iL cs w)(hb:Bw w w'):iL cs w':=λp hp=>cell_later hb (h p hp)
theorem iL.hd {p:Addr×Value}{cs:List (Addr×Value)}{w:World}(h:iL (p::cs) w):w.cell? p.1=some p.2:=h p zm
theorem iL.tl {p:Addr×Value}{cs:List (Addr×Value)}{w:World}(h:iL (p::cs) w):iL cs w:=λq hq=>h q (by simp[hq])
theorem iL.alloc {cs:List (Addr×Value)}{w:World}(h:iL cs w)(o:Obj):iL cs (w.alloc o):=h.below zl
theorem iL.drew {cs:List (Addr×Value)}{w:World}(h:iL cs w):iL cs w.drew:=h
theorem bi {P:Program}{ops:Array Oper}{Q:Exit->Act->World->Prop}{S:World->Prop}{J:Nat->Bool}{i:Nat}{rest:List (Nat×Bool)}{o:Oper}{a:Act}{w:World}(ho:ops.toList[i]?=some o)(hw:Region.wanted o (yielded ops a.tmps)=false)
 (h:aU P ops Q S J rest (a.put o.dst undef) w):aU P ops Q S J ((i,true)::rest) a w:=
 ⟨o,undef,by rw[<-Array.getElem?_toList];exact ho,.inr ⟨hw,rfl⟩,h⟩
theorem Nl {P:Program}{ops:Array Oper}{Q:Exit->Act->World->Prop}{S:World->Prop}{J:Nat->Bool}{i:Nat}{rest:List (Nat×Bool)}{o:Oper}{a:Act}{w:World}(ho:ops.toList[i]?=some o)(hw:Region.wanted o (yielded ops a.tmps)=false)
 (hS:J i=true->S w) (h:aU P ops Q S J rest (a.put o.dst undef) w):aU P ops Q S J ((i,false)::rest) a w:=by
 show wpOp P ops Q i _ a w
 rw[Array.getElem?_toList]at ho;unfold wpOp;simp only[ho,hw];exact⟨hS,h⟩
def iy (A w:World):Prop:=Bw A w
theorem iy.below {A w w':World}(h:iy A w)(hb:Bw w w'):iy A w':=aK h hb
theorem iy.alloc {A w:World}(h:iy A w)(o:Obj):iy A (w.alloc o):=h.below zl
theorem iy.drew {A w:World}(h:iy A w):iy A w.drew:=Below.drew h
theorem Kh {a b:Nat}(h:b<a):cK a b=1:=by unfold cK;rw[if_neg zo,if_pos h]
theorem Ki {a b:Nat}(h:a<=b):cK a b<=0:=by unfold cK;split;decide;rw[if_neg zo];decide
theorem aaY (n:Nat):WW^(n+1)=WW^n*WW:=Nat.pow_succ _ _
theorem wX {By q n:Nat}(hB:By<WW^n)(hq:q<WW):By*q<WW^(n+1):=by
 rw[aaY];rcases Nat.eq_zero_or_pos q with h|h
 . subst h;rw[Nat.mul_zero];exact Nat.mul_pos (dH n) iO
 . exact Nat.mul_lt_mul'' hB hq
theorem Vq (a:Option Addr)(L gb b2 o2 n cap2 By pb po kd P q:Nat)(w:World)(hn:n<=1099511627774)(vW:n<=cap2)(hpc:n+1<=kd)(hy:dx w b2 o2 n By)(hB:By<WW^n)(RP:0<By)
 (hp:dx w pb po (n+1) P) (hP:P<WW^(n+1)) (hq:P/By<q) (hqW:q<WW):
 Calls Tryz.prog 189 #[.agg #[.slice a L gb,.slice (some ⟨b2,o2,none⟩) n cap2],.slice (some ⟨pb,po,none⟩) (n+1) kd,.int .u64 (q:Int)] w λe w'=>∃mb,
  e=.returned (.tuple #[.int .u64 ((P/By:Nat):Int),.slice (some ⟨mb,0,none⟩) (n+1) (n+1)])/\(ai w' mb 142 (bz (n+1) (dg (By* (P/By))))/\w.heap.size<=mb)/\Bw w w':=by
 obtain⟨Hy,HB,OD,Hp,HP⟩:=fp hy hB RP hp hP;obtain⟨D,hD⟩:=aC (P/By);have HD:=ah hD;rw[hD]at hq⊢;rw[iN]at hqW;have VC:pb<w.heap.size:=World.block_lt_of_cell? w _ (hp 0 zo);have gV:0<n->b2<w.heap.size:=λh=>World.block_lt_of_cell? w _ (hy 0 h);have hn0:0<n:=by
  rcases Nat.eq_zero_or_pos n with h|h
  . subst h;simp at hB;omega
  . exact h
 obtain⟨Lpb,Lb2⟩:=aM VC (gV hn0);clear hy hB RP hp hP hD VC gV;have hmk:=wV ((n:Int)+1) (n+1) zo zo;obtain⟨W,cO,Hb,Hx⟩:=iF w 198 [.slice a L gb,.slice (some ⟨b2,o2,none⟩) n cap2];obtain⟨x0,x1⟩:=Hx.out.c2;go_enter Tryz.func189,Tryz.ntmps189;go_wp2_with fail;go_loopw[2,8] (λqv _ wr=>∃k:Nat,D<k/\k<=q/\qv=.int .u64 (k:Int)/\ai wr w.heap.size 198 [.slice a L gb,.slice (some ⟨b2,o2,none⟩) n cap2]/\Bw w wr) (λqv _ _=>(intOf qv).toNat);case atStart=>exact⟨q,hq,Nat.le_refl _,rfl,Hx.out,Hb.out⟩
 case round=>
  clear x0 x1 Hx Hb;obtain⟨k,hk1,hk2,rfl,px,Wt⟩:=hrel;obtain⟨Hx,Hb⟩:=aM px Wt;clear px Wt;obtain⟨m,rfl⟩:∃m,k=m+1:=⟨k-1,by omega⟩;have hm:IntKind.u64.wrap (((m+1:Nat):Int)-1)=(m:Int):=by rw[IntKind.wrap_u64];omega
  obtain⟨x0,x1⟩:=Hx.out.c2;have TW:m<WW:=by rw[iN];omega
  have PP:=ah TW;clear TW;have lx:=Hx.out.lt;have sz:=Hb.out.size;obtain⟨W2,hW2⟩:=aC (wr.alloc (.cells (bz (n+1) λ_=>0).toArray 142));have hb2:Bw wr W2:=by rw[<-hW2];exact zl
  have eX:Hid (ai W2 wr.heap.size 142 (bz (n+1) λ_=>0)):=by rw[<-hW2];exact ai.new _ _ _
  replace Hx:=ah (Hx.out.below hb2);have fe:=ah (aK Hb.out hb2);have WY:W2.heap.size=wr.heap.size+1:=by rw[<-hW2];simp
  have alk:=ah WY;clear WY hb2;obtain⟨y0,y1⟩:=Hx.out.c2;go_wp2_with fail;refine(Gc wr.heap.size (n+1) 0 (n+1) (n+1) (λ_=>0) 0 b2 o2 n cap2 By m W2 zo zo eX.out zo (λj _=>by unfold dg;rw[Nat.zero_div];rfl) (Hy.out.below fe.out) HB.out (by have:=Lb2.out;omega) PP.out).mono ?_;rintro e w3 ⟨rfl,qB,qg⟩
  have eB:bz (n+1) (fE (λ_=>0) 0 (n+1) (dg (0+By*m)))=bz (n+1) (dg (By*m)):=jp (λj hj=>by
   have:=CS (λ_=>0) 0 (n+1) (dg (0+By*m)) j hj
   simpa only[Nat.zero_add]using this)
  rw[eB]at qB;obtain⟨jr,Py⟩:=aM qB qg;have pk:=wX HB.out PP.out;have ug:=ig pk;obtain⟨zU,tG⟩:=aM pk (Hx.out.grown qg (λh=>by have:=Option.some.inj h;omega));have nI:Hid (dx w3 pb po (n+1) P):=(Hp.out.below fe.out).grown qg (λh=>by have:=Option.some.inj h;have:=Lpb.out;omega);have dQ:=ah (fe.out.grown qg (by have:=fe.out.size;omega) (λj e=>by have:=Option.some.inj e;omega));clear qB qg eB pk x0 x1 y0 y1;obtain⟨x0,x1⟩:=tG.out.c2;go_wp2_with fail;refine(jQ wr.heap.size 0 (n+1) (n+1) (By*m) w3 zo (Nat.le_refl _) (jr.out.lim _ (Nat.le_refl _)) zU.out).mono ?_;rintro e w4 ⟨rfl,rfl⟩;go_wp2_with fail;refine(wR wr.heap.size 0 (ln (By*m)) (n+1) (By*m) pb po (n+1) kd P w3 zo ug (jr.out.lim _ ug) (eu _) zo hpc nI.out HP.out).mono ?_;rintro e w5 ⟨rfl,dm⟩;obtain⟨fq,xY,kP⟩:=cH dm (tG.out.below dm) (jr.out.below dm);clear dm x0 x1;obtain⟨x0,x1⟩:=xY.out.c2;have lv:=Nat.div_add_mod P By;have wu:=Nat.mod_lt P OD.out;rw[HD.out]at lv;by_cases hle:By*m<=P
  . have hmD:D=m:=by
     have h1:m<=D:=by rw[<-HD.out];exact(Nat.le_div_iff_mul_le OD.out).2 (by rw[Nat.mul_comm];exact hle)
     omega
    subst hmD;have kz:=Ki hle;clear lv wu hle;generalize cK (By*D) P=c at*;go_wp2;refine bodyPost_ret (v:=.tuple #[.int .u64 (D:Int),.slice (some ⟨wr.heap.size,0,none⟩) (n+1) (n+1)]) (by simp[results,Tryz.results189,go_sem]) rfl ⟨wr.heap.size,rfl,⟨kP.out,sz⟩,aK dQ.out fq.out⟩
  . have hlt:D<m:=by
     rcases Nat.lt_or_ge D m with h|h
     . exact h
     . exact absurd (Nat.le_trans (Nat.mul_le_mul_left By h) zo) hle
    have kz:=Kh (a:=By*m) (b:=P) zo;clear lv wu;rw[kz];go_wp2;go_roundw;case rel=>exact⟨m,hlt,by omega,by go_num,xY.out,aK dQ.out fq.out⟩
    case measure=>simp[intOf]
theorem _root_.Go.RowKit.Below.thenGrown {w a c:World}{b:Nat}(h:Bw w a)(k:a.grownBy c (some b)):w.grownBy c (some b):=
 ⟨k.os.trans h.os,k.tape.trans h.tape,k.output.trans h.output,Nat.le_trans h.size k.size,λi hi hn=>(k.block i (Nat.lt_of_lt_of_le hi h.size) hn).trans (h.block i hi)⟩
def Wn (w:World)(b o:Nat)(cs:List Value):Prop:=∀j (h:j<cs.length),w.cell? ⟨b,o+j,none⟩=some cs[j]
theorem Wn.cell {w:World}{b o:Nat}{cs:List Value}(h:Wn w b o cs)(j:Nat)(hj:j<cs.length):w.cell? ⟨b,o+j,none⟩=some cs[j]:=h j hj
theorem Wn.below {w w':World}{b o:Nat}{cs:List Value}(h:Wn w b o cs)(hb:Bw w w'):Wn w' b o cs:=λj hj=>cell_later hb (h j hj)
theorem adp (h lo y:Nat)(w:World)(hy1:9223372036854775808<=y)(hy:y<WW)(hh:h<y)(hl:lo<WW):
 Calls Tryz.prog 188 #[.int .u64 (h:Int),.int .u64 (lo:Int),.int .u64 (y:Int)] w λe w'=>(∃r,e=.returned (.tuple #[.int .u64 (((h*WW+lo)/y:Nat):Int),.int .u64 r]))/\Bw w w':=by
 rcases Nat.eq_zero_or_pos h with h0|h0
 . subst h0;refine(adr lo y w zo hy hl).mono ?_;rintro e w' ⟨r,rfl,hb⟩;refine⟨⟨r,?_⟩,hb⟩;rw[Nat.zero_mul,Nat.zero_add]
 . refine(adq h lo y w hy1 hy hh hl h0).mono ?_;rintro e w' ⟨r,he,hb⟩;exact⟨⟨r,he⟩,hb⟩
theorem take_at {R By at' n:Nat}(hR:R<WW^(at'+n+1))(j:Nat):
 fE (dg R) at' (n+1) (dg (R/WW^at'-By* (R/WW^at'/By))) j=dg (R-By* (R/WW^at'/By) *WW^at') j:=by
 obtain⟨P,hP⟩:=aC (R/WW^at');obtain⟨lo,hlo⟩:=aC (R%WW^at');obtain⟨S,hS⟩:=aC (By* (P/By));have hl:lo<WW^at':=by rw[<-hlo];exact Nat.mod_lt _ (dH _)
 have e:=Nat.div_add_mod R (WW^at');rw[hP,hlo]at e;have hSP:S<=P:=by rw[<-hS];exact Nat.mul_div_le _ _
 have hPn:P<WW^(n+1):=by rw[<-hP];refine Nat.div_lt_of_lt_mul ?_;rw[<-Nat.pow_add];exact hR
 rw[hP,hS];have e1:R=P*WW^at'+lo:=by rw[<-e,Nat.mul_comm]
 have e2:R-S*WW^at'=(P-S) *WW^at'+lo:=by have:S*WW^at'<=P*WW^at':=Nat.mul_le_mul_right _ hSP;rw[e1,Nat.sub_mul];omega
 rw[e2,Ri _ _ _ _ hl];unfold fE;by_cases h1:j<at'
 . rw[if_neg zo,if_pos h1,e1,Ri _ _ _ _ hl,if_pos h1]
 . rw[if_neg h1];by_cases h2:j<at'+(n+1)
   . rw[if_pos zo]
   . rw[if_neg zo,qh (k:=at'+n+1) hR zo,qh (k:=n+1) (Nat.lt_of_le_of_lt (Nat.sub_le _ _) hPn) zo]
theorem ado (b L gb R b2 o2 n cap2 By at':Nat)(w:World)(hL:L<=1099511627775)(hLc:L<=gb)(hn:0<n)(vW:n<=cap2)(hB:ai w b 142 (bz L (dg R)))(hy:dx w b2 o2 n By)(EZ:By<WW^n)(htop:9223372036854775808<=dg By (n-1))
 (hR:R<By*WW^(at'+1)) (hat:at'+n+1<=L) (hne:b2≠b):
 Calls Tryz.prog 178 #[.agg #[.slice (some ⟨b,0,none⟩) L gb,.slice (some ⟨b2,o2,none⟩) n cap2],.int .i64 (at':Int)] w λe w'=>
  e=.returned (.int .u64 ((R/WW^at'/By:Nat):Int))/\ai w' b 142 (bz L (dg (R-By* (R/WW^at'/By) *WW^at')))/\w.grownBy w' (some b):=by
 have RQ:0<By:=by
  rcases Nat.eq_zero_or_pos By with h|h
  . subst h;unfold dg at htop;simp at htop
  . exact h
 have KZ:R<WW^(at'+n+1):=by refine Nat.lt_of_lt_of_le hR ?_;rw[show WW^(at'+n+1)=WW^n*WW^(at'+1)by rw[<-Nat.pow_add];congr 1;omega];exact Nat.mul_le_mul_right _ (Nat.le_of_lt EZ)
 have htake:=λj=>take_at (R:=R) (By:=By) (at':=at') (n:=n) KZ j;obtain⟨P,hP⟩:=aC (R/WW^at');have Sq:P<By*WW:=by rw[<-hP];refine Nat.div_lt_of_lt_mul ?_;rw[<-Nat.mul_assoc,Nat.mul_comm _ By,Nat.mul_assoc,Nat.mul_comm (WW^at'),<-Nat.pow_succ'];exact hR
 have Sr:P<WW^(n+1):=by rw[<-hP];refine Nat.div_lt_of_lt_mul ?_;rw[<-Nat.pow_add];exact KZ
 have BG:∀j,dg P j=dg R (at'+j):=λj=>by rw[<-hP];exact EH R at' j
 obtain⟨G,hG⟩:=aC (if dg P n<dg By (n-1)then(dg P n*WW+dg P (n-1))/dg By (n-1)else WW-1);have hge:=aek (P:=P) (by':=By) hn Sq zo EZ;rw[hG]at hge;have Ls:=iP By (n-1);have Lf:=iP P (n-1);obtain⟨top,Ml⟩:=aC (dg P n);obtain⟨T0,hT0⟩:=aC (dg P (n-1));obtain⟨b1,hb1⟩:=aC (dg By (n-1));rw[Ml,hT0,hb1]at hG;rw[hb1]at htop Ls;rw[hT0]at Lf;have hlb:=hB.lt;have afg:b2<w.heap.size:=World.block_lt_of_cell? w _ (hy 0 hn);have Kk:w.cell? ⟨b,at'+n,none⟩=some (.int .u64 (top:Int)):=by rw[hB.cell,fL _ _ _ zo,<-Ml,BG]
 have Kc:w.cell? ⟨b,at'+n-1,none⟩=some (.int .u64 (T0:Int)):=by rw[hB.cell,fL _ _ _ zo,<-hT0,BG];congr 4;omega
 have Ke:w.cell? ⟨b2,o2+(n-1),none⟩=some (.int .u64 (b1:Int)):=by rw[<-hb1];exact hy _ zo
 have Ct:dx w b at' (n+1) P:=λj hj=>by rw[hB.cell,fL _ _ _ zo,BG]
 have i1:=CJ L gb (at'+n) ((at':Int)+(n:Int)) (rfl:(some ⟨b,0,none⟩:Option Addr)=_) zo zo;have i2:=CJ L gb (at'+n-1) ((at':Int)+(n:Int)-1) (rfl:(some ⟨b,0,none⟩:Option Addr)=_) zo zo;have i3:=CJ n cap2 (n-1) ((n:Int)-1) (rfl:(some ⟨b2,o2,none⟩:Option Addr)=_) zo zo;rw[Nat.mul_one,Nat.zero_add]at i1 i2;rw[Nat.mul_one]at i3;have hsl:at'+n+1-at'=n+1:=by omega
 have hmk:=wV ((n:Int)+1) (n+1) zo zo;obtain⟨Pf,Hy,pU,DC,td,HP,PD,OH,Ed,Eb,Hne,DI⟩:=gW hB hy EZ RQ Sr hP hge hG htake Ct hne BG;obtain⟨AP,YC,OW⟩:=cH htop Ls Lf;obtain⟨D,hD⟩:=aC (P/By);have HD:=ah hD;rw[hP,hD];rw[hD]at hge;have IG:Hid (Wn w b (at'+n) [.int .u64 (top:Int)]):=λj hj=>by
  obtain rfl:j=0:=by simp at hj;omega
  exact Kk
 have vg:Hid (Wn w b (at'+n-1) [.int .u64 (T0:Int)]):=λj hj=>by
  obtain rfl:j=0:=by simp at hj;omega
  exact Kc
 have vh:Hid (Wn w b2 (o2+(n-1)) [.int .u64 (b1:Int)]):=λj hj=>by
  obtain rfl:j=0:=by simp at hj;omega
  exact Ke
 clear hB hy EZ RQ Sr hP hge hG htake Ct hne htop Ls Lf hD Sq BG KZ hR Ml hT0 hb1 Kk Kc Ke;obtain⟨W,cO,Hb,Hx⟩:=iF w 198 [.slice (some ⟨b,0,none⟩) L gb,.slice (some ⟨b2,o2,none⟩) n cap2];obtain⟨x0,x1⟩:=Hx.out.c2;replace IG:=ah (IG.out.below Hb.out);replace vg:=ah (vg.out.below Hb.out);replace vh:=ah (vh.out.below Hb.out);have Kk:W.cell? ⟨b,at'+n,none⟩=some (.int .u64 (top:Int)):=IG.out.cell 0 zm;have Kc:W.cell? ⟨b,at'+n-1,none⟩=some (.int .u64 (T0:Int)):=vg.out.cell 0 zm;have Ke:W.cell? ⟨b2,o2+(n-1),none⟩=some (.int .u64 (b1:Int)):=vh.out.cell 0 zm;go_enter Tryz.func178,Tryz.ntmps178;by_cases hlt:top<b1
 . have bo:(top:Int)<(b1:Int):=by omega
   have yA:=λW=>adp top T0 b1 W AP.out YC.out hlt OW.out;have tQ:=OH.out;rw[if_pos hlt]at tQ;rw[tQ]at yA;have mD:Hid (G<WW):=by
    show _<_
    rw[<-tQ];refine Nat.div_lt_of_lt_mul ?_;have h1:=OW.out;have h2:(top+1) *WW<=b1*WW:=Nat.mul_le_mul_right _ hlt;rw[Nat.add_mul,Nat.one_mul]at h2;omega
   have xM:=ah yA;clear yA tQ;go_wp2_with fail;have k1:IntKind.i64.wrap ((at':Int)+(n:Int))=(at':Int)+(n:Int):=by rw[IntKind.wrap_i64];omega
   have k2:IntKind.i64.wrap ((at':Int)+(n:Int)-1)=(at':Int)+(n:Int)-1:=by rw[IntKind.wrap_i64];omega
   have k3:IntKind.i64.wrap ((n:Int)-1)=(n:Int)-1:=by rw[IntKind.wrap_i64];omega
   obtain⟨x0,x1⟩:=Hx.out.c2;have Ez:W.cell? ⟨b,at'+n-1,none⟩=some (.int .u64 (T0:Int)):=vg.out.cell 0 zm;have EB:W.cell? ⟨b2,o2+(n-1),none⟩=some (.int .u64 (b1:Int)):=vh.out.cell 0 zm;refine bD (λw'=>w'.cell? ⟨w.heap.size,0,none⟩=some (.slice (some ⟨b,0,none⟩) L gb)/\w'.cell? ⟨w.heap.size,1,none⟩=some (.slice (some ⟨b2,o2,none⟩) n cap2)/\w'.cell? ⟨b,at'+n-1,none⟩=some (.int .u64 (T0:Int))/\w'.cell? ⟨b2,o2+(n-1),none⟩=some (.int .u64 (b1:Int))) (λi=>Nat.blt i 100000) [(0,true),(1,true),(2,true),(3,true),(4,true),(5,true),(6,true),(7,true),(8,true),(9,true),(10,true),(11,true),(12,true),(13,true),(14,true),(15,false),(16,true),(17,true),(18,true),(19,true)] zk zk rfl zk zc ⟨x0,x1,Ez,EB⟩ ?_;iterate 15 (refine pT rfl rfl ?_ (by intro w' ⟨q0,q1,q2,q3⟩;go_simp;try with_reducible rfl);try simp only[UU])
   refine aJ rfl rfl (λK hK=>?_);go_simp;with_reducible refine(xM.out _).mono ?_
   rintro e w1 ⟨⟨r,rfl⟩,hq⟩;have ae:Bw W w1:=by first|exact hq|exact aO hq
   clear x0 x1 Ez EB;replace Hx:=kB Hx ae;replace vg:=ah (vg.out.below ae);replace vh:=ah (vh.out.below ae);obtain⟨x0,x1⟩:=Hx.out.c2;have Ez:w1.cell? ⟨b,at'+n-1,none⟩=some (.int .u64 (T0:Int)):=vg.out.cell 0 zm;have EB:w1.cell? ⟨b2,o2+(n-1),none⟩=some (.int .u64 (b1:Int)):=vh.out.cell 0 zm;replace Hb:=az Hb ae;clear ae;refine hK _ _ (λ_=>⟨x0,x1,Ez,EB⟩) ?_;clear hK K;try simp only[UU]
   iterate 4 (refine pT rfl rfl ?_;try simp only[UU])
   simp only[aU];have NV:=Hb.out.size;have lx:=Hx.out.lt;obtain⟨W2,hW2⟩:=aC (w1.alloc (.cells (bz (n+1) λ_=>0).toArray 142));have hb2:Bw w1 W2:=by rw[<-hW2];exact zl
   have eX:Hid (ai W2 w1.heap.size 142 (bz (n+1) λ_=>0)):=by rw[<-hW2];exact ai.new _ _ _
   obtain⟨fe,oP⟩:=aM (aK Hb.out hb2) (Hx.out.below hb2);clear hb2;obtain⟨y0,y1⟩:=oP.out.c2;go_wp2_with fail;refine(Gc w1.heap.size (n+1) 0 (n+1) (n+1) (λ_=>0) 0 b2 o2 n cap2 By G W2 zo zo eX.out zo (λj _=>by unfold dg;rw[Nat.zero_div];rfl) (Hy.out.below fe.out) pU.out zo mD.out).mono ?_;rintro e w3 ⟨rfl,qB,qg⟩
   have eB:bz (n+1) (fE (λ_=>0) 0 (n+1) (dg (0+By*G)))=bz (n+1) (dg (By*G)):=jp (λj hj=>by
    have:=CS (λ_=>0) 0 (n+1) (dg (0+By*G)) j hj
    simpa only[Nat.zero_add]using this)
   rw[eB]at qB;have jr:=ah qB;have pk:=wX pU.out mD.out;have ug:=ig pk;obtain⟨zU,tG⟩:=aM pk (oP.out.grown qg (λh=>by have:=Option.some.inj h;omega));have nI:Hid (dx w3 b at' (n+1) P):=(Eb.out.below fe.out).grown qg (λh=>by have:=Option.some.inj h;omega);obtain⟨Iy,dQ⟩:=aM ((Pf.out.below fe.out).grown qg (λh=>by have:=Option.some.inj h;omega)) (fe.out.grown qg (by have:=fe.out.size;omega) (λj e=>by have:=Option.some.inj e;omega));clear qB qg eB pk x0 x1 y0 y1;obtain⟨x0,x1⟩:=tG.out.c2;go_wp2_with fail;refine(jQ w1.heap.size 0 (n+1) (n+1) (By*G) w3 zo (Nat.le_refl _) (jr.out.lim _ (Nat.le_refl _)) zU.out).mono ?_;rintro e w4 ⟨rfl,rfl⟩;go_wp2_with fail;refine(wR w1.heap.size 0 (ln (By*G)) (n+1) (By*G) b at' (n+1) (gb-at') P w3 zo ug (jr.out.lim _ ug) (eu _) zo zo nI.out td.out).mono ?_;rintro e w5 ⟨rfl,dm⟩;obtain⟨fq,xY,rA,kQ⟩:=dO dm (tG.out.below dm) (jr.out.below dm) (Iy.out.below dm);have mC:=ah (aK dQ.out fq.out);clear dm x0 x1;obtain⟨x0,x1⟩:=xY.out.c2;by_cases hle:By*G<=P
   . have Bz:D=G:=by
      have h1:G<=D:=by rw[<-HD.out];exact(Nat.le_div_iff_mul_le DC.out).2 (by rw[Nat.mul_comm];exact hle)
      have h2:=PD.out;rw[HD.out]at h2;omega
     have uU:=ah Bz;have kz:=Ki hle;have Jb:=ah hle;clear Bz hle;obtain⟨c,hc⟩:=aC (cK (By*G) P);rw[hc]at kz;rw[hc];clear hc;have ae0:¬0<c:=by omega
     go_wp2_with fail;refine(CL b L at' (n+1) (gb-at') (dg R) P w1.heap.size 0 (n+1) (n+1) (By*G) w5 zo zo kQ.out zo (λj _=>(DI.out j).symm) (rA.out.lim _ (Nat.le_refl _)) (wX pU.out (by first|exact mD.out|exact zM.out)) ZS Jb.out td.out).mono ?_;rintro e w6 ⟨rfl,lH,pO⟩
     have oV:bz L (fE (dg R) at' (n+1) (dg (P-By*G)))=bz L (dg (R-By*G*WW^at')):=jp (λj _=>by
      have h:=Ed.out j;rw[HP.out,HD.out,uU.out]at h
      exact h)
     rw[oV]at lH;obtain⟨lM,rI⟩:=aM lH pO;clear lH pO oV;go_wp2;refine bodyPost_ret (v:=.int .u64 (D:Int)) (by have hh:=uU.out;simp[results,Tryz.results178,go_sem,hh]) rfl ⟨rfl,by rw[uU.out];exact lM.out,Below.thenGrown mC.out rI.out⟩
   . have kz:=Kh (a:=By*G) (b:=P) zo;have hDl:P/By<G:=by
      rcases Nat.lt_or_ge (P/By) G with h|h
      . exact h
      . exact absurd (Nat.le_trans (Nat.mul_le_mul_left By h) (Nat.mul_div_le _ _)) hle
     have zN:=ah hDl;have zM:Hid (D<WW):=by have h1:=mD.out;have h2:=zN.out;rw[HD.out]at h2;exact Nat.lt_trans h2 h1
     clear hDl hle;rw[kz];clear kz;go_wp2_with fail;refine(Vq (some ⟨b,0,none⟩) L gb b2 o2 n cap2 By b at' (gb-at') P G w5 zo vW zo (Hy.out.below mC.out) pU.out DC.out (nI.out.below fq.out) td.out zN.out mD.out).mono ?_;rintro e w7 ⟨mb,rfl,⟨qM,lmb⟩,qb⟩;have GG:=mC.out.size;replace rA:=ah qM;replace kQ:=ah (kQ.out.below qb);replace mC:=ah (aK mC.out qb);rw[HD.out]at rA;rw[HD.out];have NU:=kQ.out.lt;clear qM qb x0 x1;go_wp2_with fail;refine(CL b L at' (n+1) (gb-at') (dg R) P mb 0 (n+1) (n+1) (By*D) w7 zo zo kQ.out zo (λj _=>(DI.out j).symm) (rA.out.lim _ (Nat.le_refl _)) (wX pU.out (by first|exact mD.out|exact zM.out)) ZS (by rw[<-HD.out];exact Nat.mul_div_le _ _) td.out).mono ?_;rintro e w6 ⟨rfl,lH,pO⟩
     have oV:bz L (fE (dg R) at' (n+1) (dg (P-By*D)))=bz L (dg (R-By*D*WW^at')):=jp (λj _=>by
      have h:=Ed.out j;rw[HP.out,HD.out]at h
      exact h)
     rw[oV]at lH;obtain⟨lM,rI⟩:=aM lH pO;clear lH pO oV;go_wp2;refine bodyPost_ret (results_tmp rfl _ _ _) rfl ⟨rfl,lM.out,Below.thenGrown mC.out rI.out⟩
 . have bo:¬(top:Int)<(b1:Int):=by omega
   have tQ:=OH.out;rw[if_neg hlt,iN]at tQ;have aeu:18446744073709551615=G:=tQ;subst aeu;have mD:Hid (18446744073709551615<WW):=by show _<_;rw[iN];decide
   clear tQ;have NV:=Hb.out.size;have lx:=Hx.out.lt;obtain⟨W2,hW2⟩:=aC (W.alloc (.cells (bz (n+1) λ_=>0).toArray 142));have hb2:Bw W W2:=by rw[<-hW2];exact zl
   have eX:Hid (ai W2 W.heap.size 142 (bz (n+1) λ_=>0)):=by rw[<-hW2];exact ai.new _ _ _
   obtain⟨fe,oP⟩:=aM (aK Hb.out hb2) (Hx.out.below hb2);clear hb2;obtain⟨y0,y1⟩:=oP.out.c2;go_wp2_with fail;refine(Gc W.heap.size (n+1) 0 (n+1) (n+1) (λ_=>0) 0 b2 o2 n cap2 By 18446744073709551615 W2 zo zo eX.out zo (λj _=>by unfold dg;rw[Nat.zero_div];rfl) (Hy.out.below fe.out) pU.out zo mD.out).mono ?_;rintro e w3 ⟨rfl,qB,qg⟩
   have eB:bz (n+1) (fE (λ_=>0) 0 (n+1) (dg (0+By*18446744073709551615)))=bz (n+1) (dg (By*18446744073709551615)):=jp (λj hj=>by
    have:=CS (λ_=>0) 0 (n+1) (dg (0+By*18446744073709551615)) j hj
    simpa only[Nat.zero_add]using this)
   rw[eB]at qB;have jr:=ah qB;have pk:=wX pU.out mD.out;have ug:=ig pk;obtain⟨zU,tG⟩:=aM pk (oP.out.grown qg (λh=>by have:=Option.some.inj h;omega));have nI:Hid (dx w3 b at' (n+1) P):=(Eb.out.below fe.out).grown qg (λh=>by have:=Option.some.inj h;omega);obtain⟨Iy,dQ⟩:=aM ((Pf.out.below fe.out).grown qg (λh=>by have:=Option.some.inj h;omega)) (fe.out.grown qg (by have:=fe.out.size;omega) (λj e=>by have:=Option.some.inj e;omega));clear qB qg eB pk x0 x1 y0 y1;obtain⟨x0,x1⟩:=tG.out.c2;go_wp2_with fail;refine(jQ W.heap.size 0 (n+1) (n+1) (By*18446744073709551615) w3 zo (Nat.le_refl _) (jr.out.lim _ (Nat.le_refl _)) zU.out).mono ?_;rintro e w4 ⟨rfl,rfl⟩;go_wp2_with fail;refine(wR W.heap.size 0 (ln (By*18446744073709551615)) (n+1) (By*18446744073709551615) b at' (n+1) (gb-at') P w3 zo ug (jr.out.lim _ ug) (eu _) zo zo nI.out td.out).mono ?_;rintro e w5 ⟨rfl,dm⟩;obtain⟨fq,xY,rA,kQ⟩:=dO dm (tG.out.below dm) (jr.out.below dm) (Iy.out.below dm);have mC:=ah (aK dQ.out fq.out);clear dm x0 x1;obtain⟨x0,x1⟩:=xY.out.c2;by_cases hle:By*18446744073709551615<=P
   . have Bz:D=18446744073709551615:=by
      have h1:18446744073709551615<=D:=by rw[<-HD.out];exact(Nat.le_div_iff_mul_le DC.out).2 (by rw[Nat.mul_comm];exact hle)
      have h2:=PD.out;rw[HD.out]at h2;omega
     have uU:=ah Bz;have kz:=Ki hle;have Jb:=ah hle;clear Bz hle;obtain⟨c,hc⟩:=aC (cK (By*18446744073709551615) P);rw[hc]at kz;rw[hc];clear hc;have ae0:¬0<c:=by omega
     go_wp2_with fail;refine(CL b L at' (n+1) (gb-at') (dg R) P W.heap.size 0 (n+1) (n+1) (By*18446744073709551615) w5 zo zo kQ.out zo (λj _=>(DI.out j).symm) (rA.out.lim _ (Nat.le_refl _)) (wX pU.out (by first|exact mD.out|exact zM.out)) ZS Jb.out td.out).mono ?_;rintro e w6 ⟨rfl,lH,pO⟩
     have oV:bz L (fE (dg R) at' (n+1) (dg (P-By*18446744073709551615)))=bz L (dg (R-By*18446744073709551615*WW^at')):=jp (λj _=>by
      have h:=Ed.out j;rw[HP.out,HD.out,uU.out]at h
      exact h)
     rw[oV]at lH;obtain⟨lM,rI⟩:=aM lH pO;clear lH pO oV;go_wp2;refine bodyPost_ret (v:=.int .u64 (D:Int)) (by have hh:=uU.out;simp[results,Tryz.results178,go_sem,hh]) rfl ⟨rfl,by rw[uU.out];exact lM.out,Below.thenGrown mC.out rI.out⟩
   . have kz:=Kh (a:=By*18446744073709551615) (b:=P) zo;have hDl:P/By<18446744073709551615:=by
      rcases Nat.lt_or_ge (P/By) 18446744073709551615 with h|h
      . exact h
      . exact absurd (Nat.le_trans (Nat.mul_le_mul_left By h) (Nat.mul_div_le _ _)) hle
     have zN:=ah hDl;have zM:Hid (D<WW):=by have h1:=mD.out;have h2:=zN.out;rw[HD.out]at h2;exact Nat.lt_trans h2 h1
     clear hDl hle;rw[kz];clear kz;go_wp2_with fail;refine(Vq (some ⟨b,0,none⟩) L gb b2 o2 n cap2 By b at' (gb-at') P 18446744073709551615 w5 zo vW zo (Hy.out.below mC.out) pU.out DC.out (nI.out.below fq.out) td.out zN.out mD.out).mono ?_;rintro e w7 ⟨mb,rfl,⟨qM,lmb⟩,qb⟩;have GG:=mC.out.size;replace rA:=ah qM;replace kQ:=ah (kQ.out.below qb);replace mC:=ah (aK mC.out qb);rw[HD.out]at rA;rw[HD.out];have NU:=kQ.out.lt;clear qM qb x0 x1;go_wp2_with fail;refine(CL b L at' (n+1) (gb-at') (dg R) P mb 0 (n+1) (n+1) (By*D) w7 zo zo kQ.out zo (λj _=>(DI.out j).symm) (rA.out.lim _ (Nat.le_refl _)) (wX pU.out (by first|exact mD.out|exact zM.out)) ZS (by rw[<-HD.out];exact Nat.mul_div_le _ _) td.out).mono ?_;rintro e w6 ⟨rfl,lH,pO⟩
     have oV:bz L (fE (dg R) at' (n+1) (dg (P-By*D)))=bz L (dg (R-By*D*WW^at')):=jp (λj _=>by
      have h:=Ed.out j;rw[HP.out,HD.out]at h
      exact h)
     rw[oV]at lH;obtain⟨lM,rI⟩:=aM lH pO;clear lH pO oV;go_wp2;refine bodyPost_ret (results_tmp rfl _ _ _) rfl ⟨rfl,lM.out,Below.thenGrown mC.out rI.out⟩
theorem Kp (X Y j:Nat):X% (Y*WW^(j+1))/WW^j/Y=dg (X/Y) j:=by unfold dg;rw[Nat.div_div_eq_div_mul,Nat.div_div_eq_div_mul,show Y*WW^(j+1)=WW^j*Y*WW by rw[Nat.pow_succ,<-Nat.mul_assoc,Nat.mul_comm Y],Nat.mod_mul_right_div_self,Nat.mul_comm Y]
theorem ads (X Y j:Nat):X% (Y*WW^(j+1))-Y* (X% (Y*WW^(j+1))/WW^j/Y) *WW^j=X% (Y*WW^j):=by
 rw[Kp];have e:Y*WW^(j+1)=Y*WW^j*WW:=by rw[Nat.pow_succ,<-Nat.mul_assoc]
 have e2:dg (X/Y) j=X/(Y*WW^j)%WW:=by unfold dg;rw[Nat.div_div_eq_div_mul]
 rw[e,Nat.mod_mul,e2];have e3:Y* (X/(Y*WW^j)%WW) *WW^j=Y*WW^j* (X/(Y*WW^j)%WW):=by grind
 rw[e3];omega
theorem ahv {Y:Nat}(h:0<Y):∃s,s<64/\s=64-bu (dg Y (ln Y-1))/\Y*2^s<WW^ln Y/\9223372036854775808<=dg (Y*2^s) (ln Y-1)/\ln (Y*2^s)=ln Y/\0<bu (dg Y (ln Y-1))/\bu (dg Y (ln Y-1))<=64:=by
 have hl:=Gb h;obtain⟨k,hk⟩:∃k,ln Y=k+1:=⟨ln Y-1,by omega⟩;obtain⟨h1,h2⟩:=Vy hk;obtain⟨t1,t2,t3⟩:=QK Y k h1 h2;rw[hk,Nat.add_sub_cancel];obtain⟨B,hB⟩:=aC (bu (dg Y k));rw[hB]at t1 t2 t3⊢;have h3:=nS Y;rw[t1]at h3;have e1:WW^(k+1)=2^(64*k+64):=by rw[jO];congr 1
 have e2:(2:Nat)^(64*k+64)=2^(64*k+B) *2^(64-B):=by rw[<-Nat.pow_add];congr 1;omega
 have hlt:Y*2^(64-B)<WW^(k+1):=by rw[e1,e2];exact Nat.mul_lt_mul_of_pos_right h3 (Nat.pow_pos zd)
 have hge:2^(64*k+B-1)<=Y:=by
  rcases Nat.lt_or_ge Y (2^(64*k+B-1))with h4|h4
  . have:=fO h4;omega
  . exact h4
 have Tw:9223372036854775808*WW^k<=Y*2^(64-B):=by
  have e3:9223372036854775808*WW^k=2^(64*k+B-1) *2^(64-B):=by rw[jO,<-Nat.pow_add,show 64*k+B-1+(64-B)=63+64*k by omega,Nat.pow_add]
  rw[e3];exact Nat.mul_le_mul_right _ hge
 refine⟨64-B,by omega,rfl,hlt,?_,?_,t3,t2⟩
 . unfold dg;have h5:9223372036854775808<=Y*2^(64-B)/WW^k:=(Nat.le_div_iff_mul_le (dH k)).2 Tw;have h6:Y*2^(64-B)/WW^k<WW:=by refine Nat.div_lt_of_lt_mul ?_;rw[Nat.pow_succ]at hlt;exact hlt
   rw[Nat.mod_eq_of_lt h6];exact h5
 . refine Vx hlt (Nat.le_trans ?_ Tw);exact Nat.le_mul_of_pos_left _ zd
theorem acW (b o n cap v:Nat)(w:World)(hm:n<=1099511627776)(hcap:n<=cap)(hc:dx w b o n v)(hv:v<WW^n):
 Calls Tryz.prog 165 #[.slice (some ⟨b,o,none⟩) n cap] w λe w'=>e=.returned (.slice (some ⟨b,o,none⟩) (ln v) cap)/\Bw w w':=by
 refine(jQ b o n cap v w hm hcap hc hv).mono ?_;rintro e w' ⟨he,rfl⟩;exact⟨he,Below.refl _ _⟩
theorem adv (b m cap v n:Nat)(w:World)(hm:m<=549755813888)(hcap:m<=cap)(hn:n<64)(hx:dx w b 0 m v)(hv:v<WW^m):
 Calls Tryz.prog 167 #[.slice (some ⟨b,0,none⟩) m cap,.int .i64 (n:Int)] w λe w'=>∃a k c,e=.returned (.slice a k c)/\(xZ w' a k (v/2^n)/\k<=c/\k<=549755813888/\v/2^n<WW^k)/\Bw w w':=by
 rcases Nat.eq_zero_or_pos m with h|h
 . subst h;have hv0:v=0:=by simpa using hv
   subst hv0;refine(Rm (some ⟨b,0,none⟩) 0 cap n w zo zo zo).mono ?_;rintro e w' ⟨he,rfl⟩;exact⟨none,0,0,he,⟨λh=>absurd h zo,Nat.le_refl _,by omega,by rw[Nat.zero_div];exact dH 0⟩,Below.refl _ _⟩
 . have h64:n/64=0:=by omega
   refine(Rl b 0 m cap v n w hm hcap zo hx hv zo).mono ?_;rintro e w' ⟨he,hB,hb,hle⟩;exact⟨_,_,_,he,⟨λ_=>⟨_,_,rfl,hB.lim _ hle⟩,hle,by omega,eu _⟩,hb⟩
theorem ahk (l m:List UInt8)(w:World)(hl:l.length<=68719476736)(hm:m.length<=68719476736)(hm0:0<nv m)(hle:nv m<=nv l):
 Calls Tryz.prog 156 #[.string (bs l),.string (bs m)] w λe w'=>e=.returned (.tuple #[.string (bs (nt (nv l/nv m))),.string (bs (nt (nv l%nv m))),.bool true])/\Bw w w':=by
 obtain⟨X,hX⟩:=aC (nv l);obtain⟨Y,hY⟩:=aC (nv m);have h1:=λW=>kH l W zo;have h2:=λW=>kH m W zo;rw[hX]at h1 hle⊢;rw[hY]at h2 hle hm0⊢;obtain⟨s,hs,Uz,Fj,FW,FK,Tc,hbl⟩:=ahv hm0;have SI:0<X:=by omega
 have hlx:=Gb SI;have Cl:=Gb hm0;obtain⟨lx,wm⟩:=aC (ln X);obtain⟨ly,wn⟩:=aC (ln Y);have nZ:=eu X;have rZ:=eu Y;rw[wm]at h1 hlx nZ;rw[wn]at h2 Cl rZ Fj FW FK Uz Tc hbl;obtain⟨cx,jy⟩:=aC ((l.length+7)/8);obtain⟨cy,ua⟩:=aC ((m.length+7)/8);rw[jy]at h1;rw[ua]at h2;have FL:lx<=cx:=by rw[<-wm,<-jy,<-hX];exact ig (Ej l)
 have FM:ly<=cy:=by rw[<-wn,<-ua,<-hY];exact ig (Ej m)
 have ae1:cx<=8589934593:=by omega
 have Fv:cy<=8589934593:=by omega
 have kz:¬cK X Y<0:=by unfold cK;rw[if_neg zo];split<;>omega
 have Fx:X*2^s/(Y*2^s)=X/Y:=Nat.mul_div_mul_right _ _ (Nat.pow_pos zd);have hdr:X*2^s% (Y*2^s)=X%Y*2^s:=Nat.mul_mod_mul_right _ _ _;have gw:X*2^s<WW^(lx+1):=by rw[Nat.pow_succ];exact Nat.mul_lt_mul'' nZ (by rw[jN];exact Nat.pow_lt_pow_right zd hs)
 have TT:=ig gw;obtain⟨X',Li⟩:=aC (X*2^s);obtain⟨Y',Lp⟩:=aC (Y*2^s);have FX:=λb W h=>Oc b 0 lx cx X s W zo zo h nZ;have Mo:=λb W h=>Oc b 0 ly cy Y s W zo zo h rZ;rw[Li]at Fx hdr gw TT;rw[Lp]at Fx hdr Fj FW FK;simp only[Li,show s/64=0 by omega,Nat.add_zero]at FX;simp only[Lp,show s/64=0 by omega,Nat.add_zero,FK]at Mo;obtain⟨lX,FI⟩:=aC (ln X');rw[FI]at TT;simp only[FI]at FX;have Ll:X'<WW^lX:=by rw[<-FI];exact eu _
 have Lx:=λb W h=>Kj (some ⟨b,0,none⟩) lX (lx+1) X' ((lx:Int)+2) W zo zo zo h Ll;rw[show max ((lx:Int)+2).toNat lX=lx+2 by omega]at Lx;have Cm:∀W,Calls Tryz.prog 177 #[.int .u64 (dg Y (ly-1):Int)] W λe w'=>e=.returned (.int .i64 (s:Int))/\W=w':=λW=>by have:=ML (dg Y (ly-1)) W (iP _ _);rw[show(64-(bu (dg Y (ly-1)):Int))=(s:Int)by omega]at this;exact this
 have lC:ly<=lx:=by
  have h3:¬lx<ly:=λh3=>by have:=MF (v:=X) (u:=Y) (by rw[wm,wn];exact h3);omega
  omega
 have hmk:=wV ((lx:Int)+2-ly) (lx+2-ly) zo zo;obtain⟨H1,H2,aau,aav,YI,Jd,DL,Io,Yw,AP,YM,rE⟩:=gW h1 h2 FX Mo Lx Cm nZ rZ Fj FW Fx hdr;obtain⟨ak7,xE,Hm0⟩:=cH Ll gw hm0;clear h1 h2 FX Mo Lx Cm nZ rZ Fj FW Fx hdr Ll gw hX hY Uz wm wn jy ua Li Lp FI FK hle SI hm0 Tc hbl;go_enter Tryz.func156,Tryz.ntmps156;go_wp2_with fail;refine(H1.out w).mono ?_;rintro e w1 ⟨rfl,bK,hb1,fg⟩;obtain⟨dS,bL⟩:=aM bK hb1;clear bK hb1;go_wp2_with fail;refine(H2.out w1).mono ?_;rintro e w2 ⟨rfl,dZ,hb2,yF⟩;obtain⟨eX,bV⟩:=aM dZ (aK bL.out hb2);replace dS:=ah (dS.out.below hb2);have s1:=dS.out.lt;have s2:=eX.out.lt;clear dZ hb2;have afh:((ly:Int)==0)=false:=by simp;omega
 go_wp2_with fail;refine(wR w.heap.size 0 lx cx X w1.heap.size 0 ly cy Y w2 zo fg (dS.out.lim _ fg) DL.out zo yF (eX.out.lim _ yF) Io.out).mono ?_;rintro e w3 ⟨rfl,hb3⟩;replace dS:=ah (dS.out.below hb3);replace eX:=ah (eX.out.below hb3);have dQ:=ah (aK bV.out hb3);clear hb3;obtain⟨c,hc⟩:=aC (cK X Y);rw[hc]at kz⊢;clear hc;have hdec:decide (c<0)=false:=by simp;omega
 have i1:=CJ ly cy (ly-1) ((ly:Int)-1) (rfl:(some ⟨w1.heap.size,0,none⟩:Option Addr)=_) zo zo;rw[Nat.mul_one,Nat.zero_add]at i1;have cY:w3.cell? ⟨w1.heap.size,ly-1,none⟩=some (.int .u64 (dg Y (ly-1):Int)):=by rw[eX.out.cell,fL _ _ _ zo]
 go_wp2_with fail;refine(Jd.out w3).mono ?_;rintro e w4 ⟨rfl,rfl⟩;clear cY i1;go_wp2_with fail;refine(aau.out w.heap.size w3 (dS.out.lim _ fg)).mono ?_;rintro e w4 ⟨rfl,qB,qb,qle⟩;have GQ:=ah qB;replace eX:=ah (eX.out.below qb);have iJ:=ah (aK dQ.out qb);have s4:=GQ.out.lt;clear qB qb;go_wp2_with fail;refine(YI.out w3.heap.size w4 (λ_=>⟨_,_,rfl,GQ.out.lim _ zo⟩)).mono ?_;rintro e w5 ⟨rfl,qB,qb⟩;have kP:=ah qB;replace eX:=ah (eX.out.below qb);have fq:=ah (aK iJ.out qb);have s5:=kP.out.lt;clear qB qb;go_wp2_with fail;refine(aav.out w1.heap.size w5 (eX.out.lim _ yF)).mono ?_;rintro e w6 ⟨rfl,qB,qb,anL⟩;have lM:=ah qB;replace kP:=ah (kP.out.below qb);have Iw:=ah (aK fq.out qb);have s6:=lM.out.lt;have WX:=kP.out.lt;have q4:=iJ.out.size;clear qB qb dS eX GQ bL bV dQ iJ fq;obtain⟨M,hM⟩:=aC (lx+2-ly);rw[hM]at hmk;obtain⟨lB,hlB⟩:=aC w4.heap.size;obtain⟨yB,UY⟩:=aC w5.heap.size;rw[hlB]at kP s5 WX q4⊢;rw[UY]at lM s6 s5⊢;obtain⟨W7,Fi⟩:=aC (w6.alloc (.cells #[.slice (some ⟨lB,0,none⟩) (lx+2) (lx+2),.slice (some ⟨yB,0,none⟩) ly (ly+1)] 198));have iU:Bw w6 W7:=by rw[<-Fi];exact zl
 have II:Hid (ai W7 w6.heap.size 198 [.slice (some ⟨lB,0,none⟩) (lx+2) (lx+2),.slice (some ⟨yB,0,none⟩) ly (ly+1)]):=by rw[<-Fi];exact ai.new _ _ _
 have s7:W7.heap.size=w6.heap.size+1:=by rw[<-Fi];simp
 obtain⟨W8,Lg⟩:=aC (W7.alloc (.cells (bz M λ_=>0).toArray 142));have gg:Bw W7 W8:=by rw[<-Lg];exact zl
 have Ho:Hid (ai W8 W7.heap.size 142 (bz M λ_=>0)):=by rw[<-Lg];exact ai.new _ _ _
 have Hd:=ah (II.out.below gg);replace kP:=ah ((kP.out.below iU).below gg);replace lM:=ah ((lM.out.below iU).below gg);have fY:=ah (aK (aK Iw.out iU) gg);have GG:=Iw.out.size;have S7:=ah s7;clear iU gg Iw hlB UY s7;obtain⟨d0,d1⟩:=II.out.c2;go_wp2_with fail;have PK:Hid (dx W8 yB 0 ly Y'):=lM.out.lim _ zo;have BD:M+ly=lx+2:=by omega
 have Lj:X'<Y'*WW^M:=by have h1:WW^(ly-1)<=Y':=Xr (by have:=AP.out;omega);have h2:WW^(ly-1) *WW^M<=Y'*WW^M:=Nat.mul_le_mul_right _ h1;rw[<-Nat.pow_add,show ly-1+M=lx+1 by omega]at h2;exact Nat.lt_of_lt_of_le xE.out h2
 have SL:0<Y':=by
  rcases Nat.eq_zero_or_pos Y' with h|h
  . have:=AP.out;rw[h]at this;unfold dg at this;simp at this
  . exact h
 have Sv:X'/Y'<WW^M:=Nat.div_lt_of_lt_mul Lj;obtain⟨Yv,Yx,Ym⟩:=cH Lj SL Sv;clear Lj SL Sv d0 d1 Fi Lg hmk hM;obtain⟨oB,Md⟩:=aC W7.heap.size;rw[Md]at Ho⊢;have Ug:oB=w6.heap.size+1:=by rw[<-Md];exact S7.out
 obtain⟨dB,Tg⟩:=aC w6.heap.size;rw[Tg]at Hd Ug s6 WX GG⊢;have amh:dB<oB:=by omega
 clear Md Tg S7 II Ug;go_loopw[12] (λx wr=>∃(k:Nat) (i:Int),k<=M/\i=(k:Int)-1/\x=.int .i64 i/\ai wr dB 198 [.slice (some ⟨lB,0,none⟩) (lx+2) (lx+2),.slice (some ⟨yB,0,none⟩) ly (ly+1)]/\ai wr lB 142 (bz (lx+2) (dg (X'% (Y'*WW^k))))/\ai wr oB 142 (bz M λj=>if k<=j then dg (X'/Y') j else 0)/\dx wr yB 0 ly Y'/\Bw w wr) (λx _=>(intOf x+1).toNat);case atStart=>
  refine⟨M,_,Nat.le_refl _,rfl,rfl,Hd.out,?_,?_,PK.out,fY.out⟩
  . rw[Nat.mod_eq_of_lt Yv.out];exact kP.out
  . have e:bz M (λj=>if M<=j then dg (X'/Y') j else 0)=bz M λ_=>0:=jp (λj hj=>by rw[if_neg zo]);rw[e];exact Ho.out
 case round=>
  clear Hd kP Ho PK fY lM;obtain⟨k,i,hk,hi,rfl,pd,pl,po,py,pb⟩:=hrel;obtain⟨Hd,Hl,Ho,Hy,Hb⟩:=fp pd pl po py pb;clear pd pl po py pb;obtain⟨d0,d1⟩:=Hd.out.c2;by_cases jU:0<k
  . obtain⟨j,rfl⟩:∃j,k=j+1:=⟨k-1,by omega⟩;obtain rfl:i=(j:Int):=by omega
    clear hi;go_wp2_with fail;refine(ado lB (lx+2) (lx+2) (X'% (Y'*WW^(j+1))) yB 0 ly (ly+1) Y' j wr zo (Nat.le_refl _) Cl zo Hl.out Hy.out Yw.out AP.out (Nat.mod_lt _ (Nat.mul_pos Yx.out (dH _))) zo zo).mono ?_;rintro e w9 ⟨rfl,qB,qg⟩;rw[Kp]at qB⊢;have hrest:=ads X' Y' j;rw[Kp]at hrest;rw[hrest]at qB;have kn:∀b,b≠lB->some b≠some lB:=λb h e=>h (Option.some.inj e);obtain⟨Zn,Pn,Jj,Hy9,YD⟩:=fp qB (Hd.out.grown qg (kn _ zo)) (Ho.out.grown qg (kn _ zo)) (Hy.out.grown qg (kn _ zo)) (Hb.out.grown qg Hb.out.size (λb e=>by have:=Option.some.inj e;omega));obtain⟨q,hq⟩:=aC (dg (X'/Y') j);rw[hq];have Hq:=ah hq;have i2:=CJ M M j (j:Int) (rfl:(some ⟨oB,0,none⟩:Option Addr)=_) zo rfl;rw[Nat.mul_one,Nat.zero_add]at i2;have co:w9.cell? ⟨oB,j,none⟩=some (.int .u64 ((if j+1<=j then dg (X'/Y') j else 0:Nat):Int)):=by rw[Jj.out.cell,fL _ _ _ zo]
    have fo:w9.frozen? ⟨oB,j,none⟩=false:=Jj.out.free j;clear qB qg hrest hq d0 d1;obtain⟨d0,d1⟩:=Pn.out.c2;go_wp2;go_roundw;case rel=>
     refine⟨j,(j:Int)-1,by omega,rfl,by go_num,Pn.out.so oB j zo _,Zn.out.so oB j zo _,?_,?_,YD.out.sc oB j zo _⟩
     . have h:=Jj.out.set j (.int .u64 (q:Int));rw[zG]at h
       have e:bz M (λi=>if i=j then q else if j+1<=i then dg (X'/Y') i else 0)=bz M (λi=>if j<=i then dg (X'/Y') i else 0):=jp (λi hi=>by
        by_cases h1:i=j
        . subst h1;rw[if_pos rfl,if_pos (Nat.le_refl _)];exact Hq.out.symm
        . rw[if_neg h1];by_cases h2:j+1<=i
          . rw[if_pos h2,if_pos zo]
          . rw[if_neg h2,if_neg zo])
       rw[e]at h;exact h
     . exact λt ht=>fc zp (Hy9.out t ht)
    case measure=>simp[intOf]
  . obtain rfl:k=0:=by omega
    obtain rfl:i= -1:=by omega
    have HL:Hid (dx wr oB 0 M (X'/Y')):=λt ht=>by rw[Ho.out.cell,Nat.zero_add,fL _ _ _ ht,if_pos (Nat.zero_le _)]
    have hR:X'% (Y'*WW^0)=X'%Y':=by rw[Nat.pow_zero,Nat.mul_one]
    rw[hR]at Hl;have OU:Hid (X'%Y'<WW^(lx+2)):=Nat.lt_of_le_of_lt (Nat.mod_le _ _) (Nat.lt_of_lt_of_le xE.out (Nat.pow_le_pow_right iO zo));have TS:=ig OU.out;have HR:=ah (show X'%Y'/2^s=X%Y by rw[rE.out];exact Nat.mul_div_cancel _ (Nat.pow_pos zd));clear hi hR;go_wp2_with fail;have kQ:=Hb;clear Hb;have Hb:Hid (Bw wr wr):=Below.refl _ _;obtain⟨d0,d1⟩:=Hd.out.c2;refine bD (λw'=>w'.cell? ⟨dB,0,none⟩=some (.slice (some ⟨lB,0,none⟩) (lx+2) (lx+2))) (λi=>Nat.blt i 100000) [(0,true),(2,true),(3,true),(5,true),(1,false),(4,false),(6,false),(7,false),(8,true),(9,true),(10,true)] zk zk rfl zk zc d0 ?_;iterate 4 (refine pT rfl rfl ?_;try simp only[UU])
    refine aJ rfl rfl (λK hK=>?_);go_simp;with_reducible refine(uP oB 0 M M (X'/Y') _ zo (Nat.le_refl _) (HL.out.below (by first|exact Hb.out|exact Below.drew Hb.out)) Ym.out).mono ?_
    rintro e y1 ⟨rfl,hq⟩;have ae:Bw wr y1:=by first|exact hq|exact aO hq
    clear d0 d1;replace Hd:=kB Hd ae;obtain⟨d0,d1⟩:=Hd.out.c2;replace Hb:=az Hb ae;clear ae;refine hK _ _ (λ_=>d0) ?_;clear hK K;try simp only[UU]
    refine aJ rfl rfl (λK hK=>?_);go_simp;with_reducible refine(acW lB 0 (lx+2) (lx+2) (X'%Y') _ zo (Nat.le_refl _) ((Hl.out.lim _ (Nat.le_refl _)).below (by first|exact Hb.out|exact Below.drew Hb.out)) OU.out).mono ?_
    rintro e y2 ⟨rfl,hq⟩;have ae:Bw y1 y2:=by first|exact hq|exact aO hq
    clear d0 d1;replace Hd:=kB Hd ae;obtain⟨d0,d1⟩:=Hd.out.c2;replace Hb:=az Hb ae;clear ae;refine hK _ _ (λ_=>d0) ?_;clear hK K;try simp only[UU]
    refine aJ rfl rfl (λK hK=>?_);go_simp;with_reducible refine(adv lB (ln (X'%Y')) (lx+2) (X'%Y') s _ zo TS hs ((Hl.out.lim _ TS).below (by first|exact Hb.out|exact Below.drew Hb.out)) (eu _)).mono ?_
    rintro e y3 ⟨a,k,c2,rfl,⟨qL,qc,qk,qv⟩,hq⟩;have ae:Bw y2 y3:=by first|exact hq|exact aO hq
    clear d0 d1;replace Hd:=kB Hd ae;obtain⟨d0,d1⟩:=Hd.out.c2;replace Hb:=az Hb ae;clear ae;refine hK _ _ (λ_=>d0) ?_;clear hK K;try simp only[UU]
    refine aJ rfl rfl (λK hK=>?_);go_simp;with_reducible refine(Xp a k c2 (X'%Y'/2^s) _ zo qc qL qv).mono ?_
    rintro e y4 ⟨rfl,hq⟩;have ae:Bw y3 y4:=by first|exact hq|exact aO hq
    clear d0 d1;replace Hd:=kB Hd ae;obtain⟨d0,d1⟩:=Hd.out.c2;replace Hb:=az Hb ae;clear ae;refine hK _ _ (λ_=>d0) ?_;clear hK K;try simp only[UU]
    iterate 3 (refine pT rfl rfl ?_;try simp only[UU])
    simp only[aU];go_wp2;refine bodyPost_ret (v:=.tuple #[.string (bs (nt (X/Y))),.string (bs (nt (X%Y))),.bool true]) (by have h1:=YM.out;have h2:=HR.out;simp[results,Tryz.results156,go_sem,h1,h2]) rfl ⟨rfl,aK kQ.out Hb.out⟩
section
variable {P:Program} {md:Region.Mode} {ops:Array Oper} {Q:Exit->Act->World->Prop} {S:World->Prop} {J:Nat->Bool}
def Ba (md:Region.Mode)(ops:Array Oper)(J:Nat->Bool)(es:List Nat)(D:Nat->List Nat)(last:List (Nat×Bool)):Nat->Array Bool->Bool
 |0,listed=>es.all (λk=>listed.getD k false)&&qY md ops J last listed
 |n+1,listed=>listed.size==ops.size&& !(Region.ready md ops listed).isEmpty&&(Region.ready md ops listed).all λk=>es.contains k&& !(listed.getD k false)&&decide (k<listed.size)&&(D k).all (λd=>es.contains d&&listed.getD d false)&&Ba md ops J es D last n (listed.setIfInBounds k true)
def qi (es:List Nat)(listed:Array Bool)(i:Nat):Bool:=es.contains i&&listed.getD i false
theorem adu {es:List Nat}{listed:Array Bool}{k:Nat}(hk:es.contains k=true)(hl:k<listed.size):qi es (listed.setIfInBounds k true)=λi=>i==k||qi es listed i:=by
 funext i
 unfold qi;by_cases h:i=k
 . subst h;simp only[beq_self_eq_true,Bool.true_or];rw[hk];simp[hl]
 . have h2:(i==k)=false:=by simpa using h
   rw[h2,Bool.false_or,getD_set_ne false (λe=>h e.symm)]
theorem akF (hs:Region.noSelect ops=true)(hQ:∀(o:Oper) c a v w,Q (.panic c) (a.put o.dst v) w->Q (.panic c) a w)(es:List Nat)(D:Nat->List Nat)(last:List (Nat×Bool))(I:(Nat->Bool)->Act->World->Prop)
 (h2:∀dn a w,I dn a w->S w) (h3:∀k∈es,∀dn a w,dn k=false->(∀d∈D k,dn d=true)->I dn a w->wpOp P ops Q k (I λi=>i==k||dn i) a w) (h4:∀dn a w,(∀k∈es,dn k=true)->I dn a w->aU P ops Q S J last a w) (n:Nat):
 ∀(listed:Array Bool) (a:Act) (w:World),Closed md ops listed->Ba md ops J es D last n listed=true->I (qi es listed) a w->rq P md ops Q S J (last.length+n) listed a w:=by
 induction n with
 |zero=>intro listed a w hc hok h;simp only[Ba,Bool.and_eq_true,List.all_eq_true]at hok;exact Dt hs hQ last _ _ _ hc hok.2 (λ_=>h2 _ _ _ h) (h4 _ _ _ (λk hk=>by unfold qi;rw[hok.1 k hk];simpa using hk) h)
 | succ n ih=>
   intro listed a w hc hok h;simp only[Ba,Bool.and_eq_true,List.all_eq_true]at hok;obtain⟨⟨_,h5⟩,h6⟩:=hok;refine⟨λh0=>(by rw[h0]at h5;simp at h5),λk hk=>?_⟩;obtain⟨⟨⟨⟨q1,q2⟩,q3⟩,q4⟩,q5⟩:=h6 k hk;have q3':k<listed.size:=of_decide_eq_true q3;have hf:qi es listed k=false:=by unfold qi;rw[q1];simpa using q2
   refine wpOp_mono (λa1 w1 q=>⟨λ_=>h2 _ _ _ q,ih _ _ _ (hc.list hk) q5 ?_⟩) (h3 k (by simpa using q1) _ a w hf (λd hd=>by unfold qi;rw[Bool.and_eq_true];exact q4 d hd) h);rw[adu q1 q3'];exact q
def CV (md:Region.Mode)(ops:Array Oper)(J:Nat->Bool)(es:List Nat)(D:Nat->List Nat)(last:List (Nat×Bool)):List Nat->Array Bool->Bool
 |[],listed=>es.all (λk=>!(listed.getD k false))&&Ba md ops J es D last es.length listed
 |x::r,listed=>(Region.ready md ops listed).contains x&&Region.free md ops listed x&&waits md ops J x&&CV md ops J es D last r (listed.setIfInBounds x true)
def akE (P:Program)(ops:Array Oper)(Q:Exit->Act->World->Prop)(S:World->Prop)(J:Nat->Bool)(es:List Nat)(D:Nat->List Nat)(last:List (Nat×Bool))(a:Act)(w:World):Prop:=
 ∃I:(Nat->Bool)->Act->World->Prop,I (λ_=>false) a w/\(∀dn a w,I dn a w->S w)/\(∀k∈es,∀dn a w,dn k=false->(∀d∈D k,dn d=true)->I dn a w->wpOp P ops Q k (I λi=>i==k||dn i) a w)/\∀dn a w,(∀k∈es,dn k=true)->I dn a w->aU P ops Q S J last a w
def zK (P:Program)(ops:Array Oper)(Q:Exit->Act->World->Prop)(S:World->Prop)(J:Nat->Bool)(es:List Nat)(D:Nat->List Nat)(last:List (Nat×Bool)):List Nat->Act->World->Prop
 |[],a,w=>akE P ops Q S J es D last a w
 |x::r,a,w=>∃o v,ops[x]?=some o/\YieldsIf P ops S o v a/\zK P ops Q S J es D last r (a.put o.dst v) w
theorem akG (hs:Region.noSelect ops=true)(hQ:∀(o:Oper) c a v w,Q (.panic c) (a.put o.dst v) w->Q (.panic c) a w)(es:List Nat)(D:Nat->List Nat)(last:List (Nat×Bool))(r:List Nat):
 ∀(listed:Array Bool) (a:Act) (w:World),Closed md ops listed->CV md ops J es D last r listed=true->S w->zK P ops Q S J es D last r a w->rq P md ops Q S J (last.length+es.length+r.length) listed a w:=by
 induction r with
 | nil=>
   intro listed a w hc hok hS h;simp only[CV,Bool.and_eq_true,List.all_eq_true]at hok;obtain⟨I,h1,h2,h3,h4⟩:=h;have e:qi es listed=λ_=>false:=by
    funext i
    unfold qi;by_cases hi:es.contains i=true
    . have:=hok.1 i (by simpa using hi);rw[hi];simpa using this
    . simp only[Bool.not_eq_true]at hi;rw[hi];rfl
   exact akF hs hQ es D last I h2 h3 h4 es.length listed a w hc hok.2 (by rw[e];exact h1)
 |cons x r ih=>intro listed a w hc hok hS h;simp only[CV,Bool.and_eq_true]at hok;obtain⟨⟨⟨h1,h2⟩,h3⟩,h4⟩:=hok;obtain⟨o,v,ho,hy,h⟩:=h;exact Ds ho (Region.noSelect_spec hs) (λc a w=>hQ o c a v w) h3 (last.length+es.length+r.length) listed a w hc h2 (by simpa using h1) hy hS (ih _ _ _ (hc.list (by simpa using h1)) h4 hS h)
theorem akM {id:Nat}{a:Act}{w:World}(S:World->Prop)(J:Nat->Bool)(es:List Nat)(D:Nat->List Nat)(last:List (Nat×Bool))(r:List Nat)(hm:P.follows .mixedOrders=true)(hs:Region.noSelect ops=true)
 (hl:last.length+es.length+r.length=ops.size) (hok:CV .any ops J es D last r (Array.replicate ops.size false)=true)
 (hQ:∀(o:Oper) c a v w,Q (.panic c) (a.put o.dst v) w->Q (.panic c) a w) (hS:S w.drew) (h:zK P ops Q S J es D last r a w.drew):(Code.region id ops true).wp P Q a w:=by
 refine wp_region_any hm (Du ops.size _ _ _ ?_ (S:=S) (J:=J));have:=akG (md:=.any) (S:=S) (J:=J) hs hQ es D last r (Array.replicate ops.size false) a w.drew (Closed.empty _) hok hS h;rw[hl]at this;exact this
theorem aih {x:Nat}{es:List Nat}{D:Nat->List Nat}{last:List (Nat×Bool)}{r:List Nat}{o:Oper}{v:Value}{a:Act}{w:World}(ho:ops.toList[x]?=some o)(hw:Region.wanted o (yielded ops a.tmps)=true)
 (hy:∀w',S w'->(execOp a.eval o).run P w'=.ok (.value v) w') (h:zK P ops Q S J es D last r (a.put o.dst v) w):zK P ops Q S J es D last (x::r) a w:=
 ⟨o,v,by rw[<-Array.getElem?_toList];exact ho,.inl ⟨hw,hy⟩,h⟩
theorem aig {es:List Nat}{D:Nat->List Nat}{last:List (Nat×Bool)}{a:Act}{w:World}(I:Act->(Nat->Bool)->Act->World->Prop)(h1:I a (λ_=>false) a w)(h2:∀dn a' w',I a dn a' w'->S w')
 (h3:∀k∈es,∀dn a' w',dn k=false->(∀d∈D k,dn d=true)->I a dn a' w'->wpOp P ops Q k (I a λi=>i==k||dn i) a' w') (h4:∀dn a' w',(∀k∈es,dn k=true)->I a dn a' w'->aU P ops Q S J last a' w'):zK P ops Q S J es D last [] a w:=
 ⟨I a,h1,h2,h3,h4⟩
theorem yZ {k:Nat}{o:Oper}{a:Act}{w:World}{R:Act->World->Prop}(ho:ops.toList[k]?=some o)(hw:Region.wanted o (yielded ops a.tmps)=true)(h:∀K:Act->World->Prop,(∀a' w',R a' w'->K a' w')->o.wp P a w K Q):wpOp P ops Q k R a w:=by rw[Array.getElem?_toList]at ho;unfold wpOp;simp only[ho,hw,if_true];exact .inl (h _ (λa' w' h=>h))
theorem zn (a:Act)(k:Nat):a.put (some k) (a.tmps.getD k undef)=a:=by
 unfold Act.put;have:a.tmps.setIfInBounds k (a.tmps.getD k undef)=a.tmps:=by
  apply Array.ext
  . simp
  . intro i h1 h2;rw[Array.getElem_setIfInBounds];split
    . rename_i e;subst e;simp[h2]
    . rfl
 cases a
 simp only at this⊢;rw[this]
end
section
variable {P:Program} {md:Region.Mode} {ops:Array Oper} {Q:Exit->Act->World->Prop} {S:World->Prop} {J:Nat->Bool}
def solo (r:List Nat)(i:Nat)(b:Bool):Bool:=match r with
 |[k]=>k==i
 |_=>r.contains i&&b
def sP (md:Region.Mode)(ops:Array Oper)(J:Nat->Bool):List (Nat×Bool)->Array Bool->Bool
 |[],listed=>(Region.ready md ops listed).isEmpty
 | (i,true)::rest,listed=>solo (Region.ready md ops listed) i (Region.free md ops listed i&&waits md ops J i)&&sP md ops J rest (listed.setIfInBounds i true)
 | (i,false)::rest,listed=>Region.ready md ops listed==[i]&&(J i|| !rest.any (·.2))&&sP md ops J rest (listed.setIfInBounds i true)
theorem akI (hs:Region.noSelect ops=true)(hQ:∀(o:Oper) c a v w,Q (.panic c) (a.put o.dst v) w->Q (.panic c) a w)(plan:List (Nat×Bool)):
 ∀(listed:Array Bool) (a:Act) (w:World),Closed md ops listed->sP md ops J plan listed=true->(plan.any (·.2)=true->S w)->aU P ops Q S J plan a w->rq P md ops Q S J plan.length listed a w:=by
 induction plan with
 |nil=>intro listed a w _ hok _ h;exact⟨List.isEmpty_iff.1 hok,h⟩
 | cons x rest ih=>
   obtain⟨i,b⟩:=x;intro listed a w hc hok hS h;cases b with
   | true=>
     simp only[sP,Bool.and_eq_true]at hok;obtain⟨h1,h4⟩:=hok;obtain⟨o,v,ho,hy,h⟩:=h;have hSw:S w:=hS zm;by_cases hr:Region.ready md ops listed=[i]
     . refine⟨λh0=>(by rw[hr]at h0;cases h0),λj hj=>?_⟩;rw[hr]at hj;obtain rfl:j=i:=by simpa using hj
       exact hy.wpOp ho hSw ⟨λ_=>hSw,ih _ _ _ (hc.list (by rw[hr];exact List.mem_singleton.2 rfl)) h4 (λ_=>hSw) h⟩
     . have h9:(Region.ready md ops listed).contains i=true/\(Region.free md ops listed i&&waits md ops J i)=true:=by
        unfold solo at h1;split at h1
        . rename_i k hk
          have:k=i:=by simpa using h1
          subst this;exact absurd hk hr
        . simpa[Bool.and_eq_true]using h1
       rw[Bool.and_eq_true]at h9;exact Ds ho (Region.noSelect_spec hs) (λc a w=>hQ o c a v w) h9.2.2 rest.length listed a w hc h9.2.1 (by simpa using h9.1) hy hSw (ih _ _ _ (hc.list (by simpa using h9.1)) h4 (λ_=>hSw) h)
   | false=>
     simp only[sP,Bool.and_eq_true,beq_iff_eq]at hok;obtain⟨⟨h1,h2⟩,h3⟩:=hok;refine⟨λh0=>(by rw[h1]at h0;cases h0),λj hj=>?_⟩;rw[h1]at hj;obtain rfl:j=i:=by simpa using hj
     refine wpOp_mono (λa' w' h4=>⟨h4.1,ih _ _ _ (hc.list (by rw[h1];exact List.mem_singleton.2 rfl)) h3 (λsf=>?_) h4.2⟩) h;rw[Bool.or_eq_true]at h2;rcases h2 with h2|h2
     . exact h4.1 h2
     . rw[sf]at h2;cases h2
def tK (n:Nat)(listed:Array Bool)(m:Nat):Prop:=listed.size=n/\∀i,listed.getD i false=m.testBit i
def uM (md:Region.Mode)(m:Nat):List Oper->Nat->List Nat
 |[],_=>[]
 |o::os,k=>bif !m.testBit k&&o.after.toList.all (λe=>!Region.binds md e||m.testBit e.on)then k::uM md m os (k+1)else uM md m os (k+1)
def ER (md:Region.Mode)(ops:Array Oper)(m:Nat)(oi:Oper)(i:Nat):List Oper->Nat->Bool
 |[],_=>true
 |oj::os,j=>(j==i||m.testBit j|| (oj.after.toList.any (λe=>Region.binds md e&&e.on==i) ||oi.apart ops oj))&&ER md ops m oi i os (j+1)
def KG (md:Region.Mode)(ops:Array Oper)(m i:Nat):Bool:=match ops[i]? with
 |none=>false
 |some oi=>ER md ops m oi i ops.toList 0
def zh (md:Region.Mode)(ops:Array Oper)(J:Nat->Bool):List (Nat×Bool)->Nat->Bool
 |[],m=>(uM md m ops.toList 0).isEmpty
 | (i,true)::rest,m=>solo (uM md m ops.toList 0) i (KG md ops m i&&waits md ops J i)&&(Nat.blt i ops.size&&zh md ops J rest (m|||2^i))
 | (i,false)::rest,m=>uM md m ops.toList 0==[i]&&(J i|| !rest.any (·.2))&&(Nat.blt i ops.size&&zh md ops J rest (m|||2^i))
theorem aiO (m:Nat):∀(os:List Oper) (k:Nat) (f:Nat->Bool),(∀j (hj:j<os.length),f (k+j)=(!m.testBit (k+j)&&os[j].after.toList.all (λe=>!Region.binds md e||m.testBit e.on)))->uM md m os k=(List.range' k os.length).filter f:=by
 intro os;induction os with
 |nil=>intro k f _;rfl
 | cons o os ih=>
   intro k f h;have h0:=h 0 zm
   have h1:=ih (k+1) f (λj hj=>by
    have:=h (j+1) zi;rw[show k+(j+1)=k+1+j by omega]at this
    simpa using this)
   rw[Nat.add_zero]at h0;simp only[List.getElem_cons_zero]at h0;rw[List.length_cons,List.range'_succ,List.filter_cons];unfold uM;rw[h1,h0];cases (!m.testBit k&&o.after.toList.all (λe=>!Region.binds md e||m.testBit e.on))<;>rfl
theorem aeb (m:Nat)(oi:Oper)(i:Nat):∀(os:List Oper) (k:Nat) (f:Nat->Bool),(∀j (hj:j<os.length),f (k+j)=(k+j==i||m.testBit (k+j) || (os[j].after.toList.any (λe=>Region.binds md e&&e.on==i) ||oi.apart ops os[j])))->ER md ops m oi i os k=(List.range' k os.length).all f:=by
 intro os;induction os with
 |nil=>intro k f _;rfl
 | cons o os ih=>
   intro k f h;have h0:=h 0 zm
   have h1:=ih (k+1) f (λj hj=>by
    have:=h (j+1) zi;rw[show k+(j+1)=k+1+j by omega]at this
    simpa using this)
   rw[Nat.add_zero]at h0;simp only[List.getElem_cons_zero]at h0;rw[List.length_cons,List.range'_succ,List.all_cons];unfold ER;rw[h1,h0]
theorem tK.bit {n:Nat}{listed:Array Bool}{m i:Nat}(h:tK n listed m)(hi:i<n):listed.getD i true=m.testBit i:=by
 rw[<-h.2 i];have:i<listed.size:=by rw[h.1];exact hi
 simp[Array.getD,this]
theorem tK.set {n:Nat}{listed:Array Bool}{m i:Nat}(h:tK n listed m)(hi:i<n):tK n (listed.setIfInBounds i true) (m|||2^i):=by
 refine⟨by simp[h.1],λj=>?_⟩;rw[Nat.testBit_or,<-h.2 j,Nat.testBit_two_pow];by_cases hij:i=j
 . subst hij;have:i<listed.size:=by rw[h.1];exact hi
   simp[Array.getD,this]
 . rw[getD_set_ne false hij];simp[hij]
theorem Ny {listed:Array Bool}{m:Nat}(h:tK ops.size listed m):Region.ready md ops listed=uM md m ops.toList 0:=by
 rw[aiO m ops.toList 0 (λi=>!listed.getD i true&&((ops[i]?).map (·.after.all λe=>!Region.binds md e||listed.getD e.on false)).getD false)]
 . unfold Region.ready;rw[List.range_eq_range',Array.length_toList]
 . intro j hj;rw[Array.length_toList]at hj;rw[Nat.zero_add,h.bit hj,Array.getElem?_eq_getElem hj,Option.map_some,Option.getD_some,Array.getElem_toList,<-Array.all_toList];simp only[h.2]
theorem aec {listed:Array Bool}{m i:Nat}(h:tK ops.size listed m):Region.free md ops listed i=KG md ops m i:=by
 unfold Region.free KG;cases hi:ops[i]? with
 |none=>rfl
 | some oi=>
   simp only
   rw[aeb m oi i ops.toList 0 (λj=>j==i||listed.getD j true||match ops[j]? with
    |some oj=>oj.after.any (λe=>Region.binds md e&&e.on==i) ||oi.apart ops oj
    |none=>true)]
   . rw[List.range_eq_range',Array.length_toList];rfl
   . intro j hj;rw[Array.length_toList]at hj;rw[Nat.zero_add,h.bit hj,Array.getElem?_eq_getElem hj,Array.getElem_toList];show(j==i||m.testBit j|| (ops[j].after.any (λe=>Region.binds md e&&e.on==i) ||oi.apart ops ops[j]))=_
     rw[<-Array.any_toList]
theorem aii (plan:List (Nat×Bool)):∀(listed:Array Bool) (m:Nat),tK ops.size listed m->zh md ops J plan m=true->sP md ops J plan listed=true:=by
 induction plan with
 |nil=>intro listed m h hok;unfold sP;rw[Ny h];exact hok
 | cons x rest ih=>
   obtain⟨i,b⟩:=x;intro listed m h hok;cases b with
   |true=>simp only[zh,Bool.and_eq_true]at hok;simp only[sP,Bool.and_eq_true];rw[Ny h,aec h];exact⟨hok.1,ih _ _ (h.set (by simpa using hok.2.1)) hok.2.2⟩
   |false=>simp only[zh,Bool.and_eq_true]at hok;simp only[sP,Bool.and_eq_true];rw[Ny h];exact⟨hok.1,ih _ _ (h.set (by simpa using hok.2.1)) hok.2.2⟩
theorem akN {id:Nat}{a:Act}{w:World}(S:World->Prop)(J:Nat->Bool)(plan:List (Nat×Bool))(hm:P.follows .mixedOrders=true)(hs:Region.noSelect ops=true)
 (hl:plan.length=ops.size) (hok:zh .any ops J plan 0=true)
 (hQ:∀(o:Oper) c a v w,Q (.panic c) (a.put o.dst v) w->Q (.panic c) a w) (hS:S w.drew) (h:aU P ops Q S J plan a w.drew):(Code.region id ops true).wp P Q a w:=by
 refine wp_region_any hm (Du ops.size _ _ _ ?_ (S:=S) (J:=J))
 have:=akI (md:=.any) (S:=S) (J:=J) hs hQ plan (Array.replicate ops.size false) a w.drew (Closed.empty _) (aii plan _ 0 ⟨by simp,λi=>by rw[Nat.zero_testBit,Array.getD_eq_getD_getElem?,Array.getElem?_replicate];split<;>rfl⟩ hok) (λ_=>hS) h
 rw[hl]at this;exact this
end
end Go.Proofs.YtdaadlblknpipaaGreatDoor
