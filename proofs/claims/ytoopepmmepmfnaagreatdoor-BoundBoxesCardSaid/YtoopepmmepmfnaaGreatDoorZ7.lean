/- A statement whose order is open,walked in one order: what only reads is taken first;S is asked behind each operation but the last ones (J),for which everything else waits. -/
import Derived.Test.YtoopepmmepmfnaaGreatDoorZ6
import Derived.OrdersHeld
import Derived.Test.YtoopepmmepmfnaaGreatDoorZ5
set_option linter.unusedVariables false
set_option linter.unusedSimpArgs false
set_option maxRecDepth 100000
set_option maxHeartbeats 16000000
namespace Go.Proofs.YtoopepmmepmfnaaGreatDoor
open Go.RowKit
theorem U1 {α:Type}(l:List α)(i:Nat)(a:α):l.toArray.setIfInBounds i a=(l.set i a).toArray:=by simp
theorem U2 {α:Type}(x:α)(l:List α)(a:α):(x::l).set 0 a=a::l:=rfl
theorem U3 {α:Type}(x:α)(l:List α)(i:Nat)(a:α):(x::l).set (i+1) a=x::l.set i a:=rfl
section
variable {P:Program} {md:Region.Mode} {ops:Array Oper} {Q:Exit->Act->World->Prop} {S:World->Prop} {J:Nat->Bool}
def ua (P:Program)(md:Region.Mode)(ops:Array Oper)(Q:Exit->Act->World->Prop)(S:World->Prop)(J:Nat->Bool):Nat->Array Bool->Act->World->Prop
 |0,listed,a,w=>Region.ready md ops listed=[]/\Q .normal a w
 | fuel+1,listed,a,w=>
   (Region.ready md ops listed=[]->Q .normal a w)/\
   ∀i∈Region.ready md ops listed,wpOp P ops Q i (λa' w'=>(J i=true->S w')/\ua P md ops Q S J fuel (listed.setIfInBounds i true) a' w') a w
theorem IL (fuel:Nat):∀(listed:Array Bool) (a:Act) (w:World),ua P md ops Q S J fuel listed a w->wpAny P md ops Q fuel listed a w:=by
 induction fuel with
 |zero=>intro _ _ _ h;exact h
 |succ n ih=>intro _ _ _ h;exact⟨h.1,λi hi=>wpOp_mono (λa' w' h'=>ih _ a' w' h'.2) (h.2 i hi)⟩
def reach (md:Region.Mode)(ops:Array Oper)(i:Nat):Nat->Nat->Bool
 |0,_=>false
 | n+1,j=>match ops[j]? with
   |some oj=>oj.after.any λe=>Region.binds md e&&(e.on==i||reach md ops i n e.on)
   |none=>false
def waits (md:Region.Mode)(ops:Array Oper)(J:Nat->Bool)(i:Nat):Bool:=
 (List.range ops.size).all λj=>j==i||J j||reach md ops i ops.size j
def Closed (md:Region.Mode)(ops:Array Oper)(listed:Array Bool):Prop:=
 ∀(k:Nat) (ok:Oper),listed.getD k false=true->ops[k]?=some ok->∀e∈ok.after,Region.binds md e=true->listed.getD e.on false=true
theorem Closed.empty (n:Nat):Closed md ops (Array.replicate n false):=by
 intro k ok h;exfalso
 rw[Array.getD_eq_getD_getElem?,Array.getElem?_replicate]at h;split at h<;>simp at h
theorem Closed.list {listed:Array Bool}(h:Closed md ops listed){j:Nat}(hj:j∈Region.ready md ops listed):Closed md ops (listed.setIfInBounds j true):=by
 obtain⟨MV,oj,kC,hall⟩:=mem_ready.1 hj;have up:∀n,listed.getD n false=true->(listed.setIfInBounds j true).getD n false=true:=by
  intro n hn;by_cases hjn:j=n
  . subst hjn;rcases Nat.lt_or_ge j listed.size with h'|h'
    . simp[h']
    . simp[Array.getD_eq_getD_getElem?,Array.getElem?_eq_none h']at hn
  . rw[getD_set_ne false hjn];exact hn
 intro k ok hk hok e he hb;by_cases hjk:j=k
 . subst hjk;rw[kC]at hok;cases hok
   exact up _ (hall e he hb)
 . rw[getD_set_ne false hjk]at hk;exact up _ (h k ok hk hok e he hb)
theorem alr {listed:Array Bool}(hc:Closed md ops listed){i:Nat}(n:Nat):∀(j:Nat) (oj:Oper),ops[j]?=some oj->(∀e∈oj.after,Region.binds md e=true->listed.getD e.on false=true)->reach md ops i n j=true->listed.getD i false=true:=by
 induction n with
 |zero=>intro j oj _ _ h;cases h
 | succ n ih=>
   intro j oj kC hall h;unfold reach at h;rw[kC]at h;simp only at h;rw[Array.any_eq_true]at h;obtain⟨k,hk,h2⟩:=h;simp only[Bool.and_eq_true,Bool.or_eq_true,beq_iff_eq]at h2;have h3:=hall _ (Array.getElem_mem hk) h2.1;rcases h2.2 with h4|h4
   . rw[<-h4];exact h3
   . cases ho:ops[oj.after[k].on]? with
     | none=>
       cases n with
       |zero=>cases h4
       |succ m=>unfold reach at h4;rw[ho]at h4;cases h4
     |some ok=>exact ih _ ok ho (hc _ ok h3 ho) h4
theorem ang {listed:Array Bool}(hc:Closed md ops listed){i:Nat}(h:waits md ops J i=true)(yT:listed.getD i true=false){j:Nat}(hj:j∈Region.ready md ops listed)(hne:j≠i):J j=true:=by
 obtain⟨MV,oj,kC,hall⟩:=mem_ready.1 hj;unfold waits at h;rw[List.all_eq_true]at h;have h1:=h j (List.mem_range.2 (Array.getElem?_eq_some_iff.1 kC).1);simp only[Bool.or_eq_true,beq_iff_eq]at h1;rcases h1 with(h1|h1) |h1
 . exact absurd h1 hne
 . exact h1
 . have h2:=alr hc _ j oj kC hall h1;rcases Nat.lt_or_ge i listed.size with h'|h'
   . simp[h']at yT h2;rw[yT]at h2;cases h2
   . simp[Array.getD_eq_getD_getElem?,Array.getElem?_eq_none h']at h2
theorem IK {i:Nat}{oi:Oper}{v:Value}(hi:ops[i]?=some oi)(CH:∀(j:Nat) (o:Oper) cs b,ops[j]?=some o->o.op≠ .select cs b)
 (hQ:∀c a w,Q (.panic c) (a.put oi.dst v) w->Q (.panic c) a w) (hJ:waits md ops J i=true) (fuel:Nat):
 ∀(listed:Array Bool) (a:Act) (w:World),Closed md ops listed->Region.free md ops listed i=true->i∈Region.ready md ops listed->YieldsIf P ops S oi v a->S w->
  ua P md ops Q S J fuel (listed.setIfInBounds i true) (a.put oi.dst v) w->ua P md ops Q S J (fuel+1) listed a w:=by
 induction fuel with
 | zero=>
   intro listed a w _ _ hr hy hS H;refine⟨λh=>(by rw[h]at hr;cases hr),λj hj=>?_⟩;by_cases hji:j=i
   . subst hji;exact hy.wpOp hi hS ⟨λ_=>hS,H⟩
   . have:=ready_mono hj hji;rw[H.1]at this;cases this
 | succ n ih=>
   intro listed a w hc hf hr hy hS H;refine⟨λh=>(by rw[h]at hr;cases hr),λj hj=>?_⟩;by_cases hji:j=i
   . subst hji;exact hy.wpOp hi hS ⟨λ_=>hS,H⟩
   . have h1:=H.2 j (ready_mono hj hji);obtain⟨MV,oj,kC,hall⟩:=mem_ready.1 hj;have yT:=(mem_ready.1 hr).1;have ah0:∀e∈oj.after,Region.binds md e=true->e.on≠i:=by
      intro e he hb heq;have h2:=hall e he hb;rw[heq]at h2;rcases Nat.lt_or_ge i listed.size with h'|h'
      . simp[h']at yT h2;rw[yT]at h2;cases h2
      . simp[Array.getElem?_eq_none h']at h2
     have hjJ:J j=true:=ang hc hJ yT hj hji;have h2:=wpOp_putIf kC (Region.free_spec hi hf j oj kC hji MV ah0) (λcs b=>CH i oi cs b hi) (λcs b=>CH j oj cs b kC) hQ hy h1;have hf':Region.free md ops (listed.setIfInBounds j true) i=true:=by
      unfold Region.free at hf⊢;rw[hi]at hf⊢;simp only[List.all_eq_true]at hf⊢;intro k hk;have:=hf k hk;simp only[Bool.or_eq_true]at this⊢;rcases this with(h3|h3) |h3
      . exact .inl (.inl h3)
      . refine .inl (.inr ?_);by_cases hjk:j=k
        . subst hjk;rcases Nat.lt_or_ge j listed.size with h'|h'
          . simp[h']
          . simp
        . rw[getD_set_ne true hjk];exact h3
      . exact .inr h3
     refine wpOp_mono (λa' w' h3=>⟨h3.2.1,ih (listed.setIfInBounds j true) a' w' (hc.list hj) hf' (ready_mono hr (Ne.symm hji)) h3.1 (h3.2.1 hjJ) ?_⟩) h2;rw[Array.setIfInBounds_comm _ _ hji];exact h3.2.2
def rU (md:Region.Mode)(ops:Array Oper)(J:Nat->Bool):List (Nat×Bool)->Array Bool->Bool
 |[],listed=>(Region.ready md ops listed).isEmpty
 | (i,true)::rest,listed=>(Region.ready md ops listed).contains i&&Region.free md ops listed i&&waits md ops J i&&rU md ops J rest (listed.setIfInBounds i true)
 | (i,false)::rest,listed=>Region.ready md ops listed==[i]&&(J i|| !rest.any (·.2))&&rU md ops J rest (listed.setIfInBounds i true)
def aV (P:Program)(ops:Array Oper)(Q:Exit->Act->World->Prop)(S:World->Prop)(J:Nat->Bool):List (Nat×Bool)->Act->World->Prop
 |[],a,w=>Q .normal a w
 | (i,true)::rest,a,w=>∃o v,ops[i]?=some o/\YieldsIf P ops S o v a/\aV P ops Q S J rest (a.put o.dst v) w
 | (i,false)::rest,a,w=>wpOp P ops Q i (λa' w'=>(J i=true->S w')/\aV P ops Q S J rest a' w') a w
theorem Dy (hs:Region.noSelect ops=true)(hQ:∀(o:Oper) c a v w,Q (.panic c) (a.put o.dst v) w->Q (.panic c) a w)(plan:List (Nat×Bool)):
 ∀(listed:Array Bool) (a:Act) (w:World),Closed md ops listed->rU md ops J plan listed=true->(plan.any (·.2)=true->S w)->aV P ops Q S J plan a w->ua P md ops Q S J plan.length listed a w:=by
 induction plan with
 |nil=>intro listed a w _ hok _ h;exact⟨List.isEmpty_iff.1 hok,h⟩
 | cons x rest ih=>
   obtain⟨i,b⟩:=x;intro listed a w hc hok hS h;cases b with
   |true=>simp only[rU,Bool.and_eq_true]at hok;obtain⟨⟨⟨h1,h2⟩,h3⟩,h4⟩:=hok;obtain⟨o,v,ho,hy,h⟩:=h;have hSw:S w:=hS zm;exact IK ho (Region.noSelect_spec hs) (λc a w=>hQ o c a v w) h3 rest.length listed a w hc h2 (by simpa using h1) hy hSw (ih _ _ _ (hc.list (by simpa using h1)) h4 (λ_=>hSw) h)
   | false=>
     simp only[rU,Bool.and_eq_true,beq_iff_eq]at hok;obtain⟨⟨h1,h2⟩,h3⟩:=hok;refine⟨λh0=>(by rw[h1]at h0;cases h0),λj hj=>?_⟩;rw[h1]at hj;obtain rfl:j=i:=by simpa using hj
     refine wpOp_mono (λa' w' h4=>⟨h4.1,ih _ _ _ (hc.list (by rw[h1];exact List.mem_singleton.2 rfl)) h3 (λwA=>?_) h4.2⟩) h;rw[Bool.or_eq_true]at h2;rcases h2 with h2|h2
     . exact h4.1 h2
     . rw[wA]at h2;cases h2
theorem bW {id:Nat}{a:Act}{w:World}(S:World->Prop)(J:Nat->Bool)(plan:List (Nat×Bool))(hm:P.follows .mixedOrders=true)(hs:Region.noSelect ops=true)
 (hl:plan.length=ops.size) (hok:rU .any ops J plan (Array.replicate ops.size false)=true)
 (hQ:∀(o:Oper) c a v w,Q (.panic c) (a.put o.dst v) w->Q (.panic c) a w) (hS:S w.drew) (h:aV P ops Q S J plan a w.drew):(Code.region id ops true).wp P Q a w:=by
 refine wp_region_any hm (IL ops.size _ _ _ ?_ (S:=S) (J:=J));have:=Dy (md:=.any) (S:=S) (J:=J) hs hQ plan (Array.replicate ops.size false) a w.drew (Closed.empty _) hok (λ_=>hS) h;rw[hl]at this;exact this
theorem Yt {i:Nat}{rest:List (Nat×Bool)}{o:Oper}{v:Value}{a:Act}{w:World}(ho:ops.toList[i]?=some o)(hw:Region.wanted o (yielded ops a.tmps)=true)
 (hy:∀w',S w'->(execOp a.eval o).run P w'=.ok (.value v) w') (h:aV P ops Q S J rest (a.put o.dst v) w):aV P ops Q S J ((i,true)::rest) a w:=
 ⟨o,v,by rw[<-Array.getElem?_toList];exact ho,.inl ⟨hw,hy⟩,h⟩
theorem pT {i:Nat} {rest:List (Nat×Bool)} {o:Oper} {v:Value} {a:Act} {w:World} (ho:ops.toList[i]?=some o) (hw:Region.wanted o (yielded ops a.tmps)=true)
  (h:aV P ops Q S J rest (a.put o.dst v) w) (hy:∀w',S w'->(execOp a.eval o).run P w'=.ok (.value v) w':=by(intro w' hw';go_simp;try with_reducible rfl)):aV P ops Q S J ((i,true)::rest) a w:=Yt ho hw hy h
theorem UU :(∀(a:Act) (d:Nat) (v:Value),a.put (some d) v=⟨a.tmps.setIfInBounds d v,a.defers⟩)/\(∀(a:Act) (v:Value),a.put none v=a)/\(∀(α:Type) (l:List α) (i:Nat) (a:α),l.toArray.setIfInBounds i a=(l.set i a).toArray)/\(∀(α:Type) (x:α) (l:List α) (a:α),(x::l).set 0 a=a::l)/\(∀(α:Type) (x:α) (l:List α) (i:Nat) (a:α),(x::l).set (i+1) a=x::l.set i a):=⟨λ_ _ _=>rfl,λ_ _=>rfl,λ_ l i a=>U1 l i a,λ_ _ _ _=>rfl,λ_ _ _ _ _=>rfl⟩
theorem aC {i:Nat}{rest:List (Nat×Bool)}{o:Oper}{a:Act}{w:World}(ho:ops.toList[i]?=some o)(hw:Region.wanted o (yielded ops a.tmps)=true)
 (h:∀K:Act->World->Prop,(∀a' w',(J i=true->S w')->aV P ops Q S J rest a' w'->K a' w')->o.wp P a w K Q):aV P ops Q S J ((i,false)::rest) a w:=by
 show wpOp P ops Q i _ a w
 rw[Array.getElem?_toList]at ho;unfold wpOp;simp only[ho,hw,if_true];exact .inl (h _ (λa' w' h1 h2=>⟨h1,h2⟩))
theorem bI {plan:List (Nat×Bool)}{a:Act}{W:World}(R:World->Prop)(hR:R W)(h:∀W',R W'->aV P ops Q S J plan a W'):aV P ops Q S J plan a W:=h W hR
end
theorem aG {w:World}{p a:Addr}{u v:Value}(hne:a.block≠p.block\/a.off≠p.off)(h:w.cell? a=some v):(w.setCell p u).cell? a=some v:=by rw[World.cell?_setCell_other w p a u (λe=>by subst e;rcases hne with h|h<;>exact h rfl)];exact h
section
variable {P:Program} {md:Region.Mode} {ops:Array Oper} {Q:Exit->Act->World->Prop} {S:World->Prop} {J:Nat->Bool}
def Df (md:Region.Mode)(ops:Array Oper)(J:Nat->Bool)(i j:Nat)(p1 p2:List (Nat×Bool)):List Nat->Array Bool->Bool
 |[],listed=>Region.ready md ops listed==[i,j]&&rU md ops J p1 (listed.setIfInBounds i true)&&rU md ops J p2 (listed.setIfInBounds j true)
 |x::pre,listed=>(Region.ready md ops listed).contains x&&Region.free md ops listed x&&waits md ops J x&&Df md ops J i j p1 p2 pre (listed.setIfInBounds x true)
def zV (P:Program)(ops:Array Oper)(Q:Exit->Act->World->Prop)(S:World->Prop)(J:Nat->Bool)(i j:Nat)(p1 p2:List (Nat×Bool)):List Nat->Act->World->Prop
 |[],a,w=>wpOp P ops Q i (λa1 w1=>S w1/\aV P ops Q S J p1 a1 w1) a w/\wpOp P ops Q j (λa1 w1=>S w1/\aV P ops Q S J p2 a1 w1) a w
 |x::pre,a,w=>∃o v,ops[x]?=some o/\YieldsIf P ops S o v a/\zV P ops Q S J i j p1 p2 pre (a.put o.dst v) w
theorem anl (hs:Region.noSelect ops=true)(hQ:∀(o:Oper) c a v w,Q (.panic c) (a.put o.dst v) w->Q (.panic c) a w)(i j:Nat)(p1 p2:List (Nat×Bool))(hl:p2.length=p1.length)(pre:List Nat):
 ∀(listed:Array Bool) (a:Act) (w:World),Closed md ops listed->Df md ops J i j p1 p2 pre listed=true->S w->zV P ops Q S J i j p1 p2 pre a w->ua P md ops Q S J (p1.length+1+pre.length) listed a w:=by
 induction pre with
 | nil=>
   intro listed a w hc hok _ h;simp only[Df,Bool.and_eq_true,beq_iff_eq]at hok;obtain⟨⟨h1,h2⟩,h3⟩:=hok;have mi:i∈Region.ready md ops listed:=by rw[h1];simp
   have mj:j∈Region.ready md ops listed:=by rw[h1];simp
   refine⟨λh0=>(by rw[h1]at h0;cases h0),λk hk=>?_⟩;rw[h1]at hk;simp only[List.mem_cons,List.not_mem_nil,or_false]at hk;rcases hk with rfl|rfl
   . exact wpOp_mono (λa1 w1 q=>⟨λ_=>q.1,Dy hs hQ p1 _ _ _ (hc.list mi) h2 (λ_=>q.1) q.2⟩) h.1
   . refine wpOp_mono (λa1 w1 q=>⟨λ_=>q.1,?_⟩) h.2;have:=Dy hs hQ p2 _ _ _ (hc.list mj) h3 (λ_=>q.1) q.2;rw[hl]at this;exact this
 |cons x pre ih=>intro listed a w hc hok hS h;simp only[Df,Bool.and_eq_true]at hok;obtain⟨⟨⟨h1,h2⟩,h3⟩,h4⟩:=hok;obtain⟨o,v,ho,hy,h⟩:=h;exact IK ho (Region.noSelect_spec hs) (λc a w=>hQ o c a v w) h3 (p1.length+1+pre.length) listed a w hc h2 (by simpa using h1) hy hS (ih _ _ _ (hc.list (by simpa using h1)) h4 hS h)
theorem PO {id:Nat}{a:Act}{w:World}(S:World->Prop)(J:Nat->Bool)(i j:Nat)(p1 p2:List (Nat×Bool))(pre:List Nat)(hm:P.follows .mixedOrders=true)(hs:Region.noSelect ops=true)
 (hl:p1.length+1+pre.length=ops.size) (hl2:p2.length=p1.length) (hok:Df .any ops J i j p1 p2 pre (Array.replicate ops.size false)=true)
 (hQ:∀(o:Oper) c a v w,Q (.panic c) (a.put o.dst v) w->Q (.panic c) a w) (hS:S w.drew) (h:zV P ops Q S J i j p1 p2 pre a w.drew):(Code.region id ops true).wp P Q a w:=by
 refine wp_region_any hm (IL ops.size _ _ _ ?_ (S:=S) (J:=J));have:=anl (md:=.any) (S:=S) (J:=J) hs hQ i j p1 p2 hl2 pre (Array.replicate ops.size false) a w.drew (Closed.empty _) hok hS h;rw[hl]at this;exact this
theorem OS {i j x:Nat}{p1 p2:List (Nat×Bool)}{pre:List Nat}{o:Oper}{v:Value}{a:Act}{w:World}(ho:ops.toList[x]?=some o)(hw:Region.wanted o (yielded ops a.tmps)=true)
 (hy:∀w',S w'->(execOp a.eval o).run P w'=.ok (.value v) w') (h:zV P ops Q S J i j p1 p2 pre (a.put o.dst v) w):zV P ops Q S J i j p1 p2 (x::pre) a w:=
 ⟨o,v,by rw[<-Array.getElem?_toList];exact ho,.inl ⟨hw,hy⟩,h⟩
theorem OQ {i j:Nat}{p1 p2:List (Nat×Bool)}{oi oj:Oper}{a:Act}{w:World}(hoi:ops.toList[i]?=some oi)(kC:ops.toList[j]?=some oj)(mD:Region.wanted oi (yielded ops a.tmps)=true)(uT:Region.wanted oj (yielded ops a.tmps)=true)
 (h1:∀K:Act->World->Prop,(∀a' w',S w'->aV P ops Q S J p1 a' w'->K a' w')->oi.wp P a w K Q) (h2:∀K:Act->World->Prop,(∀a' w',S w'->aV P ops Q S J p2 a' w'->K a' w')->oj.wp P a w K Q):zV P ops Q S J i j p1 p2 [] a w:=by
 rw[Array.getElem?_toList]at hoi kC;refine⟨?_,?_⟩
 . unfold wpOp;simp only[hoi,mD,if_true];exact .inl (h1 _ (λa' w' q1 q2=>⟨q1,q2⟩))
 . unfold wpOp;simp only[kC,uT,if_true];exact .inl (h2 _ (λa' w' q1 q2=>⟨q1,q2⟩))
end
inductive PT where
 |lin (p:List (Nat×Bool))
 |rd (x:Nat) (t:PT)
 |br (i j:Nat) (t1 t2:PT)
 |tr (i j k:Nat) (t1 t2 t3:PT)
def PT.size :PT->Nat
 | .lin p=>p.length
 | .rd _ t=>t.size+1
 | .br _ _ t1 _=>t1.size+1
 | .tr _ _ _ t1 _ _=>t1.size+1
section
variable {P:Program} {md:Region.Mode} {ops:Array Oper} {Q:Exit->Act->World->Prop} {S:World->Prop} {J:Nat->Bool}
def qG (md:Region.Mode)(ops:Array Oper)(J:Nat->Bool):PT->Array Bool->Bool
 | .lin p,listed=>rU md ops J p listed
 | .rd x t,listed=>(Region.ready md ops listed).contains x&&Region.free md ops listed x&&waits md ops J x&&qG md ops J t (listed.setIfInBounds x true)
 | .br i j t1 t2,listed=>Region.ready md ops listed==[i,j]&&t1.size==t2.size&&J i&&J j&&qG md ops J t1 (listed.setIfInBounds i true)&&qG md ops J t2 (listed.setIfInBounds j true)
 | .tr i j k t1 t2 t3,listed=>Region.ready md ops listed==[i,j,k]&&t1.size==t2.size&&t1.size==t3.size&&qG md ops J t1 (listed.setIfInBounds i true)&&qG md ops J t2 (listed.setIfInBounds j true)&&qG md ops J t3 (listed.setIfInBounds k true)
def kK (P:Program)(ops:Array Oper)(Q:Exit->Act->World->Prop)(S:World->Prop)(J:Nat->Bool):PT->Act->World->Prop
 | .lin p,a,w=>aV P ops Q S J p a w
 | .rd x t,a,w=>∃o v,ops[x]?=some o/\YieldsIf P ops S o v a/\kK P ops Q S J t (a.put o.dst v) w
 | .br i j t1 t2,a,w=>wpOp P ops Q i (λa1 w1=>S w1/\kK P ops Q S J t1 a1 w1) a w/\wpOp P ops Q j (λa1 w1=>S w1/\kK P ops Q S J t2 a1 w1) a w
 | .tr i j k t1 t2 t3,a,w=>wpOp P ops Q i (λa1 w1=>S w1/\kK P ops Q S J t1 a1 w1) a w/\wpOp P ops Q j (λa1 w1=>S w1/\kK P ops Q S J t2 a1 w1) a w/\wpOp P ops Q k (λa1 w1=>S w1/\kK P ops Q S J t3 a1 w1) a w
theorem anm (hs:Region.noSelect ops=true)(hQ:∀(o:Oper) c a v w,Q (.panic c) (a.put o.dst v) w->Q (.panic c) a w)(t:PT):
 ∀(listed:Array Bool) (a:Act) (w:World),Closed md ops listed->qG md ops J t listed=true->S w->kK P ops Q S J t a w->ua P md ops Q S J t.size listed a w:=by
 induction t with
 |lin p=>intro listed a w hc hok hS h;exact Dy hs hQ p _ _ _ hc hok (λ_=>hS) h
 | br i j t1 t2 ih1 ih2=>
   intro listed a w hc hok _ h;simp only[qG,Bool.and_eq_true,beq_iff_eq]at hok;obtain⟨⟨⟨⟨⟨h1,hsz⟩,_⟩,_⟩,h2⟩,h3⟩:=hok;have mi:i∈Region.ready md ops listed:=by rw[h1];simp
   have mj:j∈Region.ready md ops listed:=by rw[h1];simp
   refine⟨λh0=>(by rw[h1]at h0;cases h0),λk hk=>?_⟩;rw[h1]at hk;simp only[List.mem_cons,List.not_mem_nil,or_false]at hk;rcases hk with rfl|rfl
   . exact wpOp_mono (λa1 w1 q=>⟨λ_=>q.1,ih1 _ _ _ (hc.list mi) h2 q.1 q.2⟩) h.1
   . refine wpOp_mono (λa1 w1 q=>⟨λ_=>q.1,?_⟩) h.2;have:=ih2 _ _ _ (hc.list mj) h3 q.1 q.2;rw[<-hsz]at this;exact this
 | tr i j k t1 t2 t3 ih1 ih2 ih3=>
   intro listed a w hc hok _ h;simp only[qG,Bool.and_eq_true,beq_iff_eq]at hok;obtain⟨⟨⟨⟨⟨h1,hs2⟩,hs3⟩,h2⟩,h3⟩,h4⟩:=hok;have mi:i∈Region.ready md ops listed:=by rw[h1];simp
   have mj:j∈Region.ready md ops listed:=by rw[h1];simp
   have mk:k∈Region.ready md ops listed:=by rw[h1];simp
   refine⟨λh0=>(by rw[h1]at h0;cases h0),λl hl=>?_⟩;rw[h1]at hl;simp only[List.mem_cons,List.not_mem_nil,or_false]at hl;rcases hl with rfl|rfl|rfl
   . exact wpOp_mono (λa1 w1 q=>⟨λ_=>q.1,ih1 _ _ _ (hc.list mi) h2 q.1 q.2⟩) h.1
   . refine wpOp_mono (λa1 w1 q=>⟨λ_=>q.1,?_⟩) h.2.1;have:=ih2 _ _ _ (hc.list mj) h3 q.1 q.2;rw[<-hs2]at this;exact this
   . refine wpOp_mono (λa1 w1 q=>⟨λ_=>q.1,?_⟩) h.2.2;have:=ih3 _ _ _ (hc.list mk) h4 q.1 q.2;rw[<-hs3]at this;exact this
 |rd x t ih=>intro listed a w hc hok hS h;simp only[qG,Bool.and_eq_true]at hok;obtain⟨⟨⟨h1,h2⟩,h3⟩,h4⟩:=hok;obtain⟨o,v,ho,hy,h⟩:=h;exact IK ho (Region.noSelect_spec hs) (λc a w=>hQ o c a v w) h3 t.size listed a w hc h2 (by simpa using h1) hy hS (ih _ _ _ (hc.list (by simpa using h1)) h4 hS h)
theorem Dz {id:Nat}{a:Act}{w:World}(S:World->Prop)(J:Nat->Bool)(t:PT)(hm:P.follows .mixedOrders=true)(hs:Region.noSelect ops=true)
 (hl:t.size=ops.size) (hok:qG .any ops J t (Array.replicate ops.size false)=true)
 (hQ:∀(o:Oper) c a v w,Q (.panic c) (a.put o.dst v) w->Q (.panic c) a w) (hS:S w.drew) (h:kK P ops Q S J t a w.drew):(Code.region id ops true).wp P Q a w:=by
 refine wp_region_any hm (IL ops.size _ _ _ ?_ (S:=S) (J:=J));have:=anm (md:=.any) (S:=S) (J:=J) hs hQ t (Array.replicate ops.size false) a w.drew (Closed.empty _) hok hS h;rw[hl]at this;exact this
theorem Dg {x:Nat}{t:PT}{o:Oper}{v:Value}{a:Act}{w:World}(ho:ops.toList[x]?=some o)(hw:Region.wanted o (yielded ops a.tmps)=true)
 (hy:∀w',S w'->(execOp a.eval o).run P w'=.ok (.value v) w') (h:kK P ops Q S J t (a.put o.dst v) w):kK P ops Q S J (.rd x t) a w:=
 ⟨o,v,by rw[<-Array.getElem?_toList];exact ho,.inl ⟨hw,hy⟩,h⟩
theorem qH {i j:Nat}{t1 t2:PT}{oi oj:Oper}{a:Act}{w:World}(hJi:J i=true)(hJj:J j=true)(hoi:ops.toList[i]?=some oi)(kC:ops.toList[j]?=some oj)(mD:Region.wanted oi (yielded ops a.tmps)=true)(uT:Region.wanted oj (yielded ops a.tmps)=true)
 (h1:∀K:Act->World->Prop,(∀a' w',(J i=true->S w')->kK P ops Q S J t1 a' w'->K a' w')->oi.wp P a w K Q) (h2:∀K:Act->World->Prop,(∀a' w',(J j=true->S w')->kK P ops Q S J t2 a' w'->K a' w')->oj.wp P a w K Q):kK P ops Q S J (.br i j t1 t2) a w:=by
 rw[Array.getElem?_toList]at hoi kC;refine⟨?_,?_⟩
 . unfold wpOp;simp only[hoi,mD,if_true];exact .inl (h1 _ (λa' w' q1 q2=>⟨q1 hJi,q2⟩))
 . unfold wpOp;simp only[kC,uT,if_true];exact .inl (h2 _ (λa' w' q1 q2=>⟨q1 hJj,q2⟩))
theorem oI {t:PT}{a:Act}{W:World}(R:World->Prop)(hR:R W)(h:∀W',R W'->kK P ops Q S J t a W'):kK P ops Q S J t a W:=h W hR
theorem kH {p:List (Nat×Bool)}{a:Act}{w:World}(h:aV P ops Q S J p a w):kK P ops Q S J (.lin p) a w:=h
end
def iJ (cs:List (Addr×Value))(w:World):Prop:=∀p∈cs,w.cell? p.1=some p.2
theorem iJ.below {cs:List (Addr×Value)}{w w':World}(h:iJ cs w)(hb:Bw w w'):iJ cs w':=λp hp=>cell_later hb (h p hp)
theorem iJ.hd {p:Addr×Value}{cs:List (Addr×Value)}{w:World}(h:iJ (p::cs) w):w.cell? p.1=some p.2:=h p zm
theorem iJ.tl {p:Addr×Value}{cs:List (Addr×Value)}{w:World}(h:iJ (p::cs) w):iJ cs w:=λq hq=>h q (by simp[hq])
theorem iJ.alloc {cs:List (Addr×Value)}{w:World}(h:iJ cs w)(o:Obj):iJ cs (w.alloc o):=h.below zl
theorem iJ.drew {cs:List (Addr×Value)}{w:World}(h:iJ cs w):iJ cs w.drew:=h
theorem bM {P:Program}{ops:Array Oper}{Q:Exit->Act->World->Prop}{S:World->Prop}{J:Nat->Bool}{i:Nat}{rest:List (Nat×Bool)}{o:Oper}{a:Act}{w:World}(ho:ops.toList[i]?=some o)(hw:Region.wanted o (yielded ops a.tmps)=false)
 (h:aV P ops Q S J rest (a.put o.dst undef) w):aV P ops Q S J ((i,true)::rest) a w:=
 ⟨o,undef,by rw[<-Array.getElem?_toList];exact ho,.inr ⟨hw,rfl⟩,h⟩
theorem tQ {P:Program}{ops:Array Oper}{Q:Exit->Act->World->Prop}{S:World->Prop}{J:Nat->Bool}{i:Nat}{rest:List (Nat×Bool)}{o:Oper}{a:Act}{w:World}(ho:ops.toList[i]?=some o)(hw:Region.wanted o (yielded ops a.tmps)=false)
 (hS:J i=true->S w) (h:aV P ops Q S J rest (a.put o.dst undef) w):aV P ops Q S J ((i,false)::rest) a w:=by
 show wpOp P ops Q i _ a w
 rw[Array.getElem?_toList]at ho;unfold wpOp;simp only[ho,hw];exact⟨hS,h⟩
def gB (A w:World):Prop:=Bw A w
theorem gB.below {A w w':World}(h:gB A w)(hb:Bw w w'):gB A w':=aH h hb
theorem gB.alloc {A w:World}(h:gB A w)(o:Obj):gB A (w.alloc o):=h.below zl
theorem gB.drew {A w:World}(h:gB A w):gB A w.drew:=Below.drew h
theorem Lg {a b:Nat}(h:b<a):cJ a b=1:=by unfold cJ;rw[if_neg zo,if_pos h]
theorem Lh {a b:Nat}(h:a<=b):cJ a b<=0:=by unfold cJ;split;decide;rw[if_neg zo];decide
theorem adL (n:Nat):WW^(n+1)=WW^n*WW:=Nat.pow_succ _ _
theorem xh {By q n:Nat}(hB:By<WW^n)(hq:q<WW):By*q<WW^(n+1):=by
 rw[adL];rcases Nat.eq_zero_or_pos q with h|h
 . subst h;rw[Nat.mul_zero];exact Nat.mul_pos (dw n) iM
 . exact Nat.mul_lt_mul'' hB hq
theorem Xe (a:Option Addr)(L fV b2 o2 n cap2 By pb po OP P q:Nat)(w:World)(hn:n<=1099511627774)(wE:n<=cap2)(hpc:n+1<=OP)(hy:dm w b2 o2 n By)(hB:By<WW^n)(TL:0<By)
 (hp:dm w pb po (n+1) P) (hP:P<WW^(n+1)) (hq:P/By<q) (hqW:q<WW):
 Calls Tryz.prog 227 #[.agg #[.slice a L fV,.slice (some ⟨b2,o2,none⟩) n cap2],.slice (some ⟨pb,po,none⟩) (n+1) OP,.int .u64 (q:Int)] w λe w'=>∃mb,
  e=.returned (.tuple #[.int .u64 ((P/By:Nat):Int),.slice (some ⟨mb,0,none⟩) (n+1) (n+1)])/\(aj w' mb 107 (bC (n+1) (dg (By* (P/By))))/\w.heap.size<=mb)/\Bw w w':=by
 obtain⟨Hy,HB,PZ,Hp,HP⟩:=gT hy hB TL hp hP;obtain⟨D,hD⟩:=aB (P/By);have HD:=af hD;rw[hD]at hq⊢;rw[iL]at hqW;have Xt:pb<w.heap.size:=World.block_lt_of_cell? w _ (hp 0 zo);have lG:0<n->b2<w.heap.size:=λh=>World.block_lt_of_cell? w _ (hy 0 h);have hn0:0<n:=by
  rcases Nat.eq_zero_or_pos n with h|h
  . subst h;simp at hB;omega
  . exact h
 obtain⟨Lpb,Lb2⟩:=aI Xt (lG hn0);clear hy hB TL hp hP hD Xt lG;have hmk:=xf ((n:Int)+1) (n+1) zo zo;obtain⟨W,bU,Hb,Hx⟩:=gL w 239 [.slice a L fV,.slice (some ⟨b2,o2,none⟩) n cap2];obtain⟨x0,x1⟩:=Hx.out.c2;go_enter Tryz.func227,Tryz.ntmps227;go_wp2_with fail;go_loopw[2,8] (λqv _ wr=>∃k:Nat,D<k/\k<=q/\qv=.int .u64 (k:Int)/\aj wr w.heap.size 239 [.slice a L fV,.slice (some ⟨b2,o2,none⟩) n cap2]/\Bw w wr) (λqv _ _=>(intOf qv).toNat);case atStart=>exact⟨q,hq,Nat.le_refl _,rfl,Hx.out,Hb.out⟩
 case round=>
  clear x0 x1 Hx Hb;obtain⟨k,hk1,hk2,rfl,px,Yp⟩:=hrel;obtain⟨Hx,Hb⟩:=aI px Yp;clear px Yp;obtain⟨m,rfl⟩:∃m,k=m+1:=⟨k-1,by omega⟩;have hm:IntKind.u64.wrap (((m+1:Nat):Int)-1)=(m:Int):=by rw[IntKind.wrap_u64];omega
  obtain⟨x0,x1⟩:=Hx.out.c2;have VJ:m<WW:=by rw[iL];omega
  have Rk:=af VJ;clear VJ;have lx:=Hx.out.lt;have sz:=Hb.out.size;obtain⟨W2,hW2⟩:=aB (wr.alloc (.cells (bC (n+1) λ_=>0).toArray 107));have hb2:Bw wr W2:=by rw[<-hW2];exact zl
  have eo:Hid (aj W2 wr.heap.size 107 (bC (n+1) λ_=>0)):=by rw[<-hW2];exact aj.new _ _ _
  replace Hx:=af (Hx.out.below hb2);have iu:=af (aH Hb.out hb2);have YO:W2.heap.size=wr.heap.size+1:=by rw[<-hW2];simp
  have anU:=af YO;clear YO hb2;obtain⟨y0,y1⟩:=Hx.out.c2;go_wp2_with fail;refine(GJ wr.heap.size (n+1) 0 (n+1) (n+1) (λ_=>0) 0 b2 o2 n cap2 By m W2 zo zo eo.out zo (λj _=>by unfold dg;rw[Nat.zero_div];rfl) (Hy.out.below iu.out) HB.out (by have:=Lb2.out;omega) Rk.out).mono ?_;rintro e w3 ⟨rfl,qB,qg⟩
  have eB:bC (n+1) (eZ (λ_=>0) 0 (n+1) (dg (0+By*m)))=bC (n+1) (dg (By*m)):=jo (λj hj=>by
   have:=Dc (λ_=>0) 0 (n+1) (dg (0+By*m)) j hj
   simpa only[Nat.zero_add]using this)
  rw[eB]at qB;obtain⟨jp,QU⟩:=aI qB qg;have pL:=xh HB.out Rk.out;have uK:=ik pL;obtain⟨Ad,uo⟩:=aI pL (Hx.out.grown qg (λh=>by have:=Option.some.inj h;omega));have nU:Hid (dm w3 pb po (n+1) P):=(Hp.out.below iu.out).grown qg (λh=>by have:=Option.some.inj h;have:=Lpb.out;omega);have dG:=af (iu.out.grown qg (by have:=iu.out.size;omega) (λj e=>by have:=Option.some.inj e;omega));clear qB qg eB pL x0 x1 y0 y1;obtain⟨x0,x1⟩:=uo.out.c2;go_wp2_with fail;refine(jL wr.heap.size 0 (n+1) (n+1) (By*m) w3 zo (Nat.le_refl _) (jp.out.lim _ (Nat.le_refl _)) Ad.out).mono ?_;rintro e w4 ⟨rfl,rfl⟩;go_wp2_with fail;refine(xc wr.heap.size 0 (ln (By*m)) (n+1) (By*m) pb po (n+1) OP P w3 zo uK (jp.out.lim _ uK) (dO _) zo hpc nU.out HP.out).mono ?_;rintro e w5 ⟨rfl,df⟩;obtain⟨fB,yh,kM⟩:=cG df (uo.out.below df) (jp.out.below df);clear df x0 x1;obtain⟨x0,x1⟩:=yh.out.c2;have lv:=Nat.div_add_mod P By;have Cu:=Nat.mod_lt P PZ.out;rw[HD.out]at lv;by_cases hle:By*m<=P
  . have hmD:D=m:=by
     have h1:m<=D:=by rw[<-HD.out];exact(Nat.le_div_iff_mul_le PZ.out).2 (by rw[Nat.mul_comm];exact hle)
     omega
    subst hmD;have kv:=Lh hle;clear lv Cu hle;generalize cJ (By*D) P=c at*;go_wp2;refine bodyPost_ret (v:=.tuple #[.int .u64 (D:Int),.slice (some ⟨wr.heap.size,0,none⟩) (n+1) (n+1)]) (by simp[results,Tryz.results227,go_sem]) rfl ⟨wr.heap.size,rfl,⟨kM.out,sz⟩,aH dG.out fB.out⟩
  . have hlt:D<m:=by
     rcases Nat.lt_or_ge D m with h|h
     . exact h
     . exact absurd (Nat.le_trans (Nat.mul_le_mul_left By h) zo) hle
    have kv:=Lg (a:=By*m) (b:=P) zo;clear lv Cu;rw[kv];go_wp2;go_roundw;case rel=>exact⟨m,hlt,by omega,by go_num,yh.out,aH dG.out fB.out⟩
    case measure=>simp[intOf]
theorem _root_.Go.RowKit.Below.thenGrown {w a c:World}{b:Nat}(h:Bw w a)(k:a.grownBy c (some b)):w.grownBy c (some b):=
 ⟨k.os.trans h.os,k.tape.trans h.tape,k.output.trans h.output,Nat.le_trans h.size k.size,λi hi hn=>(k.block i (Nat.lt_of_lt_of_le hi h.size) hn).trans (h.block i hi)⟩
def Wn (w:World)(b o:Nat)(cs:List Value):Prop:=∀j (h:j<cs.length),w.cell? ⟨b,o+j,none⟩=some cs[j]
theorem Wn.cell {w:World}{b o:Nat}{cs:List Value}(h:Wn w b o cs)(j:Nat)(hj:j<cs.length):w.cell? ⟨b,o+j,none⟩=some cs[j]:=h j hj
theorem Wn.below {w w':World}{b o:Nat}{cs:List Value}(h:Wn w b o cs)(hb:Bw w w'):Wn w' b o cs:=λj hj=>cell_later hb (h j hj)
theorem af1 (h lo y:Nat)(w:World)(hy1:9223372036854775808<=y)(hy:y<WW)(hh:h<y)(hl:lo<WW):
 Calls Tryz.prog 226 #[.int .u64 (h:Int),.int .u64 (lo:Int),.int .u64 (y:Int)] w λe w'=>(∃r,e=.returned (.tuple #[.int .u64 (((h*WW+lo)/y:Nat):Int),.int .u64 r]))/\Bw w w':=by
 rcases Nat.eq_zero_or_pos h with h0|h0
 . subst h0;refine(af3 lo y w zo hy hl).mono ?_;rintro e w' ⟨r,rfl,hb⟩;refine⟨⟨r,?_⟩,hb⟩;rw[Nat.zero_mul,Nat.zero_add]
 . refine(af2 h lo y w hy1 hy hh hl h0).mono ?_;rintro e w' ⟨r,he,hb⟩;exact⟨⟨r,he⟩,hb⟩
theorem take_at {R By at' n:Nat}(hR:R<WW^(at'+n+1))(j:Nat):
 eZ (dg R) at' (n+1) (dg (R/WW^at'-By* (R/WW^at'/By))) j=dg (R-By* (R/WW^at'/By) *WW^at') j:=by
 obtain⟨P,hP⟩:=aB (R/WW^at');obtain⟨lo,hlo⟩:=aB (R%WW^at');obtain⟨S,hS⟩:=aB (By* (P/By));have hl:lo<WW^at':=by rw[<-hlo];exact Nat.mod_lt _ (dw _)
 have e:=Nat.div_add_mod R (WW^at');rw[hP,hlo]at e;have hSP:S<=P:=by rw[<-hS];exact Nat.mul_div_le _ _
 have hPn:P<WW^(n+1):=by rw[<-hP];refine Nat.div_lt_of_lt_mul ?_;rw[<-Nat.pow_add];exact hR
 rw[hP,hS];have e1:R=P*WW^at'+lo:=by rw[<-e,Nat.mul_comm]
 have e2:R-S*WW^at'=(P-S) *WW^at'+lo:=by have:S*WW^at'<=P*WW^at':=Nat.mul_le_mul_right _ hSP;rw[e1,Nat.sub_mul];omega
 rw[e2,Tf _ _ _ _ hl];unfold eZ;by_cases h1:j<at'
 . rw[if_neg zo,if_pos h1,e1,Tf _ _ _ _ hl,if_pos h1]
 . rw[if_neg h1];by_cases h2:j<at'+(n+1)
   . rw[if_pos zo]
   . rw[if_neg zo,rC (k:=at'+n+1) hR zo,rC (k:=n+1) (Nat.lt_of_le_of_lt (Nat.sub_le _ _) hPn) zo]
theorem af0 (b L fV R b2 o2 n cap2 By at':Nat)(w:World)(hL:L<=1099511627775)(hLc:L<=fV)(hn:0<n)(wE:n<=cap2)(hB:aj w b 107 (bC L (dg R)))(hy:dm w b2 o2 n By)(Fs:By<WW^n)(htop:9223372036854775808<=dg By (n-1))
 (hR:R<By*WW^(at'+1)) (hat:at'+n+1<=L) (hne:b2≠b):
 Calls Tryz.prog 220 #[.agg #[.slice (some ⟨b,0,none⟩) L fV,.slice (some ⟨b2,o2,none⟩) n cap2],.int .i64 (at':Int)] w λe w'=>
  e=.returned (.int .u64 ((R/WW^at'/By:Nat):Int))/\aj w' b 107 (bC L (dg (R-By* (R/WW^at'/By) *WW^at')))/\w.grownBy w' (some b):=by
 have TN:0<By:=by
  rcases Nat.eq_zero_or_pos By with h|h
  . subst h;unfold dg at htop;simp at htop
  . exact h
 have Mr:R<WW^(at'+n+1):=by refine Nat.lt_of_lt_of_le hR ?_;rw[show WW^(at'+n+1)=WW^n*WW^(at'+1)by rw[<-Nat.pow_add];congr 1;omega];exact Nat.mul_le_mul_right _ (Nat.le_of_lt Fs)
 have htake:=λj=>take_at (R:=R) (By:=By) (at':=at') (n:=n) Mr j;obtain⟨P,hP⟩:=aB (R/WW^at');have Uh:P<By*WW:=by rw[<-hP];refine Nat.div_lt_of_lt_mul ?_;rw[<-Nat.mul_assoc,Nat.mul_comm _ By,Nat.mul_assoc,Nat.mul_comm (WW^at'),<-Nat.pow_succ'];exact hR
 have Ui:P<WW^(n+1):=by rw[<-hP];refine Nat.div_lt_of_lt_mul ?_;rw[<-Nat.pow_add];exact Mr
 have BU:∀j,dg P j=dg R (at'+j):=λj=>by rw[<-hP];exact EP R at' j
 obtain⟨G,hG⟩:=aB (if dg P n<dg By (n-1)then(dg P n*WW+dg P (n-1))/dg By (n-1)else WW-1);have hge:=agZ (P:=P) (by':=By) hn Uh zo Fs;rw[hG]at hge;have MG:=iO By (n-1);have Mv:=iO P (n-1);obtain⟨top,NH⟩:=aB (dg P n);obtain⟨T0,hT0⟩:=aB (dg P (n-1));obtain⟨b1,hb1⟩:=aB (dg By (n-1));rw[NH,hT0,hb1]at hG;rw[hb1]at htop MG;rw[hT0]at Mv;have hlb:=hB.lt;have ahU:b2<w.heap.size:=World.block_lt_of_cell? w _ (hy 0 hn);have Lj:w.cell? ⟨b,at'+n,none⟩=some (.int .u64 (top:Int)):=by rw[hB.cell,fA _ _ _ zo,<-NH,BU]
 have KZ:w.cell? ⟨b,at'+n-1,none⟩=some (.int .u64 (T0:Int)):=by rw[hB.cell,fA _ _ _ zo,<-hT0,BU];congr 4;omega
 have Lc:w.cell? ⟨b2,o2+(n-1),none⟩=some (.int .u64 (b1:Int)):=by rw[<-hb1];exact hy _ zo
 have CC:dm w b at' (n+1) P:=λj hj=>by rw[hB.cell,fA _ _ _ zo,BU]
 have i1:=CO L fV (at'+n) ((at':Int)+(n:Int)) (rfl:(some ⟨b,0,none⟩:Option Addr)=_) zo zo;have i2:=CO L fV (at'+n-1) ((at':Int)+(n:Int)-1) (rfl:(some ⟨b,0,none⟩:Option Addr)=_) zo zo;have i3:=CO n cap2 (n-1) ((n:Int)-1) (rfl:(some ⟨b2,o2,none⟩:Option Addr)=_) zo zo;rw[Nat.mul_one,Nat.zero_add]at i1 i2;rw[Nat.mul_one]at i3;have hsl:at'+n+1-at'=n+1:=by omega
 have hmk:=xf ((n:Int)+1) (n+1) zo zo;obtain⟨QD,Hy,qQ,DI,ud,HP,QX,Qe,Ep,Ej,Hne,DL⟩:=ij hB hy Fs TN Ui hP hge hG htake CC hne BU;obtain⟨AV,abg,Qt⟩:=cG htop MG Mv;obtain⟨D,hD⟩:=aB (P/By);have HD:=af hD;rw[hP,hD];rw[hD]at hge;have Ju:Hid (Wn w b (at'+n) [.int .u64 (top:Int)]):=λj hj=>by
  obtain rfl:j=0:=by simp at hj;omega
  exact Lj
 have vI:Hid (Wn w b (at'+n-1) [.int .u64 (T0:Int)]):=λj hj=>by
  obtain rfl:j=0:=by simp at hj;omega
  exact KZ
 have vJ:Hid (Wn w b2 (o2+(n-1)) [.int .u64 (b1:Int)]):=λj hj=>by
  obtain rfl:j=0:=by simp at hj;omega
  exact Lc
 clear hB hy Fs TN Ui hP hge hG htake CC hne htop MG Mv hD Uh BU Mr hR NH hT0 hb1 Lj KZ Lc;obtain⟨W,bU,Hb,Hx⟩:=gL w 239 [.slice (some ⟨b,0,none⟩) L fV,.slice (some ⟨b2,o2,none⟩) n cap2];obtain⟨x0,x1⟩:=Hx.out.c2;replace Ju:=af (Ju.out.below Hb.out);replace vI:=af (vI.out.below Hb.out);replace vJ:=af (vJ.out.below Hb.out);have Lj:W.cell? ⟨b,at'+n,none⟩=some (.int .u64 (top:Int)):=Ju.out.cell 0 zm;have KZ:W.cell? ⟨b,at'+n-1,none⟩=some (.int .u64 (T0:Int)):=vI.out.cell 0 zm;have Lc:W.cell? ⟨b2,o2+(n-1),none⟩=some (.int .u64 (b1:Int)):=vJ.out.cell 0 zm;go_enter Tryz.func220,Tryz.ntmps220;by_cases hlt:top<b1
 . have bG:(top:Int)<(b1:Int):=by omega
   have yQ:=λW=>af1 top T0 b1 W AV.out abg.out hlt Qt.out;have uz:=Qe.out;rw[if_pos hlt]at uz;rw[uz]at yQ;have mQ:Hid (G<WW):=by
    show _<_
    rw[<-uz];refine Nat.div_lt_of_lt_mul ?_;have h1:=Qt.out;have h2:(top+1) *WW<=b1*WW:=Nat.mul_le_mul_right _ hlt;rw[Nat.add_mul,Nat.one_mul]at h2;omega
   have xU:=af yQ;clear yQ uz;go_wp2_with fail;have k1:IntKind.i64.wrap ((at':Int)+(n:Int))=(at':Int)+(n:Int):=by rw[IntKind.wrap_i64];omega
   have k2:IntKind.i64.wrap ((at':Int)+(n:Int)-1)=(at':Int)+(n:Int)-1:=by rw[IntKind.wrap_i64];omega
   have k3:IntKind.i64.wrap ((n:Int)-1)=(n:Int)-1:=by rw[IntKind.wrap_i64];omega
   obtain⟨x0,x1⟩:=Hx.out.c2;have EI:W.cell? ⟨b,at'+n-1,none⟩=some (.int .u64 (T0:Int)):=vI.out.cell 0 zm;have EJ:W.cell? ⟨b2,o2+(n-1),none⟩=some (.int .u64 (b1:Int)):=vJ.out.cell 0 zm;refine bW (λw'=>w'.cell? ⟨w.heap.size,0,none⟩=some (.slice (some ⟨b,0,none⟩) L fV)/\w'.cell? ⟨w.heap.size,1,none⟩=some (.slice (some ⟨b2,o2,none⟩) n cap2)/\w'.cell? ⟨b,at'+n-1,none⟩=some (.int .u64 (T0:Int))/\w'.cell? ⟨b2,o2+(n-1),none⟩=some (.int .u64 (b1:Int))) (λi=>Nat.blt i 100000) [(0,true),(1,true),(2,true),(3,true),(4,true),(5,true),(6,true),(7,true),(8,true),(9,true),(10,true),(11,true),(12,true),(13,true),(14,true),(15,false),(16,true),(17,true),(18,true),(19,true)] zk zk rfl zk zc ⟨x0,x1,EI,EJ⟩ ?_;iterate 15 (refine pT rfl rfl ?_ (by intro w' ⟨q0,q1,q2,q3⟩;go_simp;try with_reducible rfl);try simp only[UU])
   refine aC rfl rfl (λK hK=>?_);go_simp;with_reducible refine(xU.out _).mono ?_
   rintro e w1 ⟨⟨r,rfl⟩,hq⟩;have ae:Bw W w1:=by first|exact hq|exact aM hq
   clear x0 x1 EI EJ;replace Hx:=kB Hx ae;replace vI:=af (vI.out.below ae);replace vJ:=af (vJ.out.below ae);obtain⟨x0,x1⟩:=Hx.out.c2;have EI:w1.cell? ⟨b,at'+n-1,none⟩=some (.int .u64 (T0:Int)):=vI.out.cell 0 zm;have EJ:w1.cell? ⟨b2,o2+(n-1),none⟩=some (.int .u64 (b1:Int)):=vJ.out.cell 0 zm;replace Hb:=ak Hb ae;clear ae;refine hK _ _ (λ_=>⟨x0,x1,EI,EJ⟩) ?_;clear hK K;try simp only[UU]
   iterate 4 (refine pT rfl rfl ?_;try simp only[UU])
   simp only[aV];have Pw:=Hb.out.size;have lx:=Hx.out.lt;obtain⟨W2,hW2⟩:=aB (w1.alloc (.cells (bC (n+1) λ_=>0).toArray 107));have hb2:Bw w1 W2:=by rw[<-hW2];exact zl
   have eo:Hid (aj W2 w1.heap.size 107 (bC (n+1) λ_=>0)):=by rw[<-hW2];exact aj.new _ _ _
   obtain⟨iu,oY⟩:=aI (aH Hb.out hb2) (Hx.out.below hb2);clear hb2;obtain⟨y0,y1⟩:=oY.out.c2;go_wp2_with fail;refine(GJ w1.heap.size (n+1) 0 (n+1) (n+1) (λ_=>0) 0 b2 o2 n cap2 By G W2 zo zo eo.out zo (λj _=>by unfold dg;rw[Nat.zero_div];rfl) (Hy.out.below iu.out) qQ.out zo mQ.out).mono ?_;rintro e w3 ⟨rfl,qB,qg⟩
   have eB:bC (n+1) (eZ (λ_=>0) 0 (n+1) (dg (0+By*G)))=bC (n+1) (dg (By*G)):=jo (λj hj=>by
    have:=Dc (λ_=>0) 0 (n+1) (dg (0+By*G)) j hj
    simpa only[Nat.zero_add]using this)
   rw[eB]at qB;have jp:=af qB;have pL:=xh qQ.out mQ.out;have uK:=ik pL;obtain⟨Ad,uo⟩:=aI pL (oY.out.grown qg (λh=>by have:=Option.some.inj h;omega));have nU:Hid (dm w3 b at' (n+1) P):=(Ej.out.below iu.out).grown qg (λh=>by have:=Option.some.inj h;omega);obtain⟨Jl,dG⟩:=aI ((QD.out.below iu.out).grown qg (λh=>by have:=Option.some.inj h;omega)) (iu.out.grown qg (by have:=iu.out.size;omega) (λj e=>by have:=Option.some.inj e;omega));clear qB qg eB pL x0 x1 y0 y1;obtain⟨x0,x1⟩:=uo.out.c2;go_wp2_with fail;refine(jL w1.heap.size 0 (n+1) (n+1) (By*G) w3 zo (Nat.le_refl _) (jp.out.lim _ (Nat.le_refl _)) Ad.out).mono ?_;rintro e w4 ⟨rfl,rfl⟩;go_wp2_with fail;refine(xc w1.heap.size 0 (ln (By*G)) (n+1) (By*G) b at' (n+1) (fV-at') P w3 zo uK (jp.out.lim _ uK) (dO _) zo zo nU.out ud.out).mono ?_;rintro e w5 ⟨rfl,df⟩;obtain⟨fB,yh,se,kN⟩:=cQ df (uo.out.below df) (jp.out.below df) (Jl.out.below df);have mP:=af (aH dG.out fB.out);clear df x0 x1;obtain⟨x0,x1⟩:=yh.out.c2;by_cases hle:By*G<=P
   . have BK:D=G:=by
      have h1:G<=D:=by rw[<-HD.out];exact(Nat.le_div_iff_mul_le DI.out).2 (by rw[Nat.mul_comm];exact hle)
      have h2:=QX.out;rw[HD.out]at h2;omega
     have vE:=af BK;have kv:=Lh hle;have xW:=af hle;clear BK hle;obtain⟨c,hc⟩:=aB (cJ (By*G) P);rw[hc]at kv;rw[hc];clear hc;have ahA:¬0<c:=by omega
     go_wp2_with fail;refine(CS b L at' (n+1) (fV-at') (dg R) P w1.heap.size 0 (n+1) (n+1) (By*G) w5 zo zo kN.out zo (λj _=>(DL.out j).symm) (se.out.lim _ (Nat.le_refl _)) (xh qQ.out (by first|exact mQ.out|exact zX.out)) ZS xW.out ud.out).mono ?_;rintro e w6 ⟨rfl,lJ,qJ⟩
     have pG:bC L (eZ (dg R) at' (n+1) (dg (P-By*G)))=bC L (dg (R-By*G*WW^at')):=jo (λj _=>by
      have h:=Ep.out j;rw[HP.out,HD.out,vE.out]at h
      exact h)
     rw[pG]at lJ;obtain⟨lN,sB⟩:=aI lJ qJ;clear lJ qJ pG;go_wp2;refine bodyPost_ret (v:=.int .u64 (D:Int)) (by have hh:=vE.out;simp[results,Tryz.results220,go_sem,hh]) rfl ⟨rfl,by rw[vE.out];exact lN.out,Below.thenGrown mP.out sB.out⟩
   . have kv:=Lg (a:=By*G) (b:=P) zo;have hDl:P/By<G:=by
      rcases Nat.lt_or_ge (P/By) G with h|h
      . exact h
      . exact absurd (Nat.le_trans (Nat.mul_le_mul_left By h) (Nat.mul_div_le _ _)) hle
     have zY:=af hDl;have zX:Hid (D<WW):=by have h1:=mQ.out;have h2:=zY.out;rw[HD.out]at h2;exact Nat.lt_trans h2 h1
     clear hDl hle;rw[kv];clear kv;go_wp2_with fail;refine(Xe (some ⟨b,0,none⟩) L fV b2 o2 n cap2 By b at' (fV-at') P G w5 zo wE zo (Hy.out.below mP.out) qQ.out DI.out (nU.out.below fB.out) ud.out zY.out mQ.out).mono ?_;rintro e w7 ⟨mb,rfl,⟨qM,lmb⟩,qb⟩;have Dq:=mP.out.size;replace se:=af qM;replace kN:=af (kN.out.below qb);replace mP:=af (aH mP.out qb);rw[HD.out]at se;rw[HD.out];have Ps:=kN.out.lt;clear qM qb x0 x1;go_wp2_with fail;refine(CS b L at' (n+1) (fV-at') (dg R) P mb 0 (n+1) (n+1) (By*D) w7 zo zo kN.out zo (λj _=>(DL.out j).symm) (se.out.lim _ (Nat.le_refl _)) (xh qQ.out (by first|exact mQ.out|exact zX.out)) ZS (by rw[<-HD.out];exact Nat.mul_div_le _ _) ud.out).mono ?_;rintro e w6 ⟨rfl,lJ,qJ⟩
     have pG:bC L (eZ (dg R) at' (n+1) (dg (P-By*D)))=bC L (dg (R-By*D*WW^at')):=jo (λj _=>by
      have h:=Ep.out j;rw[HP.out,HD.out]at h
      exact h)
     rw[pG]at lJ;obtain⟨lN,sB⟩:=aI lJ qJ;clear lJ qJ pG;go_wp2;refine bodyPost_ret (results_tmp rfl _ _ _) rfl ⟨rfl,lN.out,Below.thenGrown mP.out sB.out⟩
 . have bG:¬(top:Int)<(b1:Int):=by omega
   have uz:=Qe.out;rw[if_neg hlt,iL]at uz;have ag8:18446744073709551615=G:=uz;subst ag8;have mQ:Hid (18446744073709551615<WW):=by show _<_;rw[iL];decide
   clear uz;have Pw:=Hb.out.size;have lx:=Hx.out.lt;obtain⟨W2,hW2⟩:=aB (W.alloc (.cells (bC (n+1) λ_=>0).toArray 107));have hb2:Bw W W2:=by rw[<-hW2];exact zl
   have eo:Hid (aj W2 W.heap.size 107 (bC (n+1) λ_=>0)):=by rw[<-hW2];exact aj.new _ _ _
   obtain⟨iu,oY⟩:=aI (aH Hb.out hb2) (Hx.out.below hb2);clear hb2;obtain⟨y0,y1⟩:=oY.out.c2;go_wp2_with fail;refine(GJ W.heap.size (n+1) 0 (n+1) (n+1) (λ_=>0) 0 b2 o2 n cap2 By 18446744073709551615 W2 zo zo eo.out zo (λj _=>by unfold dg;rw[Nat.zero_div];rfl) (Hy.out.below iu.out) qQ.out zo mQ.out).mono ?_;rintro e w3 ⟨rfl,qB,qg⟩
   have eB:bC (n+1) (eZ (λ_=>0) 0 (n+1) (dg (0+By*18446744073709551615)))=bC (n+1) (dg (By*18446744073709551615)):=jo (λj hj=>by
    have:=Dc (λ_=>0) 0 (n+1) (dg (0+By*18446744073709551615)) j hj
    simpa only[Nat.zero_add]using this)
   rw[eB]at qB;have jp:=af qB;have pL:=xh qQ.out mQ.out;have uK:=ik pL;obtain⟨Ad,uo⟩:=aI pL (oY.out.grown qg (λh=>by have:=Option.some.inj h;omega));have nU:Hid (dm w3 b at' (n+1) P):=(Ej.out.below iu.out).grown qg (λh=>by have:=Option.some.inj h;omega);obtain⟨Jl,dG⟩:=aI ((QD.out.below iu.out).grown qg (λh=>by have:=Option.some.inj h;omega)) (iu.out.grown qg (by have:=iu.out.size;omega) (λj e=>by have:=Option.some.inj e;omega));clear qB qg eB pL x0 x1 y0 y1;obtain⟨x0,x1⟩:=uo.out.c2;go_wp2_with fail;refine(jL W.heap.size 0 (n+1) (n+1) (By*18446744073709551615) w3 zo (Nat.le_refl _) (jp.out.lim _ (Nat.le_refl _)) Ad.out).mono ?_;rintro e w4 ⟨rfl,rfl⟩;go_wp2_with fail;refine(xc W.heap.size 0 (ln (By*18446744073709551615)) (n+1) (By*18446744073709551615) b at' (n+1) (fV-at') P w3 zo uK (jp.out.lim _ uK) (dO _) zo zo nU.out ud.out).mono ?_;rintro e w5 ⟨rfl,df⟩;obtain⟨fB,yh,se,kN⟩:=cQ df (uo.out.below df) (jp.out.below df) (Jl.out.below df);have mP:=af (aH dG.out fB.out);clear df x0 x1;obtain⟨x0,x1⟩:=yh.out.c2;by_cases hle:By*18446744073709551615<=P
   . have BK:D=18446744073709551615:=by
      have h1:18446744073709551615<=D:=by rw[<-HD.out];exact(Nat.le_div_iff_mul_le DI.out).2 (by rw[Nat.mul_comm];exact hle)
      have h2:=QX.out;rw[HD.out]at h2;omega
     have vE:=af BK;have kv:=Lh hle;have xW:=af hle;clear BK hle;obtain⟨c,hc⟩:=aB (cJ (By*18446744073709551615) P);rw[hc]at kv;rw[hc];clear hc;have ahA:¬0<c:=by omega
     go_wp2_with fail;refine(CS b L at' (n+1) (fV-at') (dg R) P W.heap.size 0 (n+1) (n+1) (By*18446744073709551615) w5 zo zo kN.out zo (λj _=>(DL.out j).symm) (se.out.lim _ (Nat.le_refl _)) (xh qQ.out (by first|exact mQ.out|exact zX.out)) ZS xW.out ud.out).mono ?_;rintro e w6 ⟨rfl,lJ,qJ⟩
     have pG:bC L (eZ (dg R) at' (n+1) (dg (P-By*18446744073709551615)))=bC L (dg (R-By*18446744073709551615*WW^at')):=jo (λj _=>by
      have h:=Ep.out j;rw[HP.out,HD.out,vE.out]at h
      exact h)
     rw[pG]at lJ;obtain⟨lN,sB⟩:=aI lJ qJ;clear lJ qJ pG;go_wp2;refine bodyPost_ret (v:=.int .u64 (D:Int)) (by have hh:=vE.out;simp[results,Tryz.results220,go_sem,hh]) rfl ⟨rfl,by rw[vE.out];exact lN.out,Below.thenGrown mP.out sB.out⟩
   . have kv:=Lg (a:=By*18446744073709551615) (b:=P) zo;have hDl:P/By<18446744073709551615:=by
      rcases Nat.lt_or_ge (P/By) 18446744073709551615 with h|h
      . exact h
      . exact absurd (Nat.le_trans (Nat.mul_le_mul_left By h) (Nat.mul_div_le _ _)) hle
     have zY:=af hDl;have zX:Hid (D<WW):=by have h1:=mQ.out;have h2:=zY.out;rw[HD.out]at h2;exact Nat.lt_trans h2 h1
     clear hDl hle;rw[kv];clear kv;go_wp2_with fail;refine(Xe (some ⟨b,0,none⟩) L fV b2 o2 n cap2 By b at' (fV-at') P 18446744073709551615 w5 zo wE zo (Hy.out.below mP.out) qQ.out DI.out (nU.out.below fB.out) ud.out zY.out mQ.out).mono ?_;rintro e w7 ⟨mb,rfl,⟨qM,lmb⟩,qb⟩;have Dq:=mP.out.size;replace se:=af qM;replace kN:=af (kN.out.below qb);replace mP:=af (aH mP.out qb);rw[HD.out]at se;rw[HD.out];have Ps:=kN.out.lt;clear qM qb x0 x1;go_wp2_with fail;refine(CS b L at' (n+1) (fV-at') (dg R) P mb 0 (n+1) (n+1) (By*D) w7 zo zo kN.out zo (λj _=>(DL.out j).symm) (se.out.lim _ (Nat.le_refl _)) (xh qQ.out (by first|exact mQ.out|exact zX.out)) ZS (by rw[<-HD.out];exact Nat.mul_div_le _ _) ud.out).mono ?_;rintro e w6 ⟨rfl,lJ,qJ⟩
     have pG:bC L (eZ (dg R) at' (n+1) (dg (P-By*D)))=bC L (dg (R-By*D*WW^at')):=jo (λj _=>by
      have h:=Ep.out j;rw[HP.out,HD.out]at h
      exact h)
     rw[pG]at lJ;obtain⟨lN,sB⟩:=aI lJ qJ;clear lJ qJ pG;go_wp2;refine bodyPost_ret (results_tmp rfl _ _ _) rfl ⟨rfl,lN.out,Below.thenGrown mP.out sB.out⟩
theorem Lu (X Y j:Nat):X% (Y*WW^(j+1))/WW^j/Y=dg (X/Y) j:=by unfold dg;rw[Nat.div_div_eq_div_mul,Nat.div_div_eq_div_mul,show Y*WW^(j+1)=WW^j*Y*WW by rw[Nat.pow_succ,<-Nat.mul_assoc,Nat.mul_comm Y],Nat.mod_mul_right_div_self,Nat.mul_comm Y]
theorem af4 (X Y j:Nat):X% (Y*WW^(j+1))-Y* (X% (Y*WW^(j+1))/WW^j/Y) *WW^j=X% (Y*WW^j):=by
 rw[Lu];have e:Y*WW^(j+1)=Y*WW^j*WW:=by rw[Nat.pow_succ,<-Nat.mul_assoc]
 have e2:dg (X/Y) j=X/(Y*WW^j)%WW:=by unfold dg;rw[Nat.div_div_eq_div_mul]
 rw[e,Nat.mod_mul,e2];have e3:Y* (X/(Y*WW^j)%WW) *WW^j=Y*WW^j* (X/(Y*WW^j)%WW):=by grind
 rw[e3];omega
theorem akk {Y:Nat}(h:0<Y):∃s,s<64/\s=64-bA (dg Y (ln Y-1))/\Y*2^s<WW^ln Y/\9223372036854775808<=dg (Y*2^s) (ln Y-1)/\ln (Y*2^s)=ln Y/\0<bA (dg Y (ln Y-1))/\bA (dg Y (ln Y-1))<=64:=by
 have hl:=GI h;obtain⟨k,hk⟩:∃k,ln Y=k+1:=⟨ln Y-1,by omega⟩;obtain⟨h1,h2⟩:=Xo hk;obtain⟨t1,t2,t3⟩:=Sw Y k h1 h2;rw[hk,Nat.add_sub_cancel];obtain⟨B,hB⟩:=aB (bA (dg Y k));rw[hB]at t1 t2 t3⊢;have h3:=nZ Y;rw[t1]at h3;have e1:WW^(k+1)=2^(64*k+64):=by rw[jG];congr 1
 have e2:(2:Nat)^(64*k+64)=2^(64*k+B) *2^(64-B):=by rw[<-Nat.pow_add];congr 1;omega
 have hlt:Y*2^(64-B)<WW^(k+1):=by rw[e1,e2];exact Nat.mul_lt_mul_of_pos_right h3 (Nat.pow_pos zd)
 have hge:2^(64*k+B-1)<=Y:=by
  rcases Nat.lt_or_ge Y (2^(64*k+B-1))with h4|h4
  . have:=fH h4;omega
  . exact h4
 have Vo:9223372036854775808*WW^k<=Y*2^(64-B):=by
  have e3:9223372036854775808*WW^k=2^(64*k+B-1) *2^(64-B):=by rw[jG,<-Nat.pow_add,show 64*k+B-1+(64-B)=63+64*k by omega,Nat.pow_add]
  rw[e3];exact Nat.mul_le_mul_right _ hge
 refine⟨64-B,by omega,rfl,hlt,?_,?_,t3,t2⟩
 . unfold dg;have h5:9223372036854775808<=Y*2^(64-B)/WW^k:=(Nat.le_div_iff_mul_le (dw k)).2 Vo;have h6:Y*2^(64-B)/WW^k<WW:=by refine Nat.div_lt_of_lt_mul ?_;rw[Nat.pow_succ]at hlt;exact hlt
   rw[Nat.mod_eq_of_lt h6];exact h5
 . refine Xn hlt (Nat.le_trans ?_ Vo);exact Nat.le_mul_of_pos_left _ zd
theorem afw (b o n cap v:Nat)(w:World)(hm:n<=1099511627776)(hcap:n<=cap)(hc:dm w b o n v)(hv:v<WW^n):
 Calls Tryz.prog 166 #[.slice (some ⟨b,o,none⟩) n cap] w λe w'=>e=.returned (.slice (some ⟨b,o,none⟩) (ln v) cap)/\Bw w w':=by
 refine(jL b o n cap v w hm hcap hc hv).mono ?_;rintro e w' ⟨he,rfl⟩;exact⟨he,Below.refl _ _⟩
theorem af8 (b m cap v n:Nat)(w:World)(hm:m<=549755813888)(hcap:m<=cap)(hn:n<64)(hx:dm w b 0 m v)(hv:v<WW^m):
 Calls Tryz.prog 129 #[.slice (some ⟨b,0,none⟩) m cap,.int .i64 (n:Int)] w λe w'=>∃a k c,e=.returned (.slice a k c)/\(yq w' a k (v/2^n)/\k<=c/\k<=549755813888/\v/2^n<WW^k)/\Bw w w':=by
 rcases Nat.eq_zero_or_pos m with h|h
 . subst h;have hv0:v=0:=by simpa using hv
   subst hv0;refine(Tk (some ⟨b,0,none⟩) 0 cap n w zo zo zo).mono ?_;rintro e w' ⟨he,rfl⟩;exact⟨none,0,0,he,⟨λh=>absurd h zo,Nat.le_refl _,by omega,by rw[Nat.zero_div];exact dw 0⟩,Below.refl _ _⟩
 . have h64:n/64=0:=by omega
   refine(Tj b 0 m cap v n w hm hcap zo hx hv zo).mono ?_;rintro e w' ⟨he,hB,hb,hle⟩;exact⟨_,_,_,he,⟨λ_=>⟨_,_,rfl,hB.lim _ hle⟩,hle,by omega,dO _⟩,hb⟩
theorem akb (l m:List UInt8)(w:World)(hl:l.length<=68719476736)(hm:m.length<=68719476736)(hm0:0<nv m)(hle:nv m<=nv l):
 Calls Tryz.prog 207 #[.string (bs l),.string (bs m)] w λe w'=>e=.returned (.tuple #[.string (bs (nt (nv l/nv m))),.string (bs (nt (nv l%nv m))),.bool true])/\Bw w w':=by
 obtain⟨X,hX⟩:=aB (nv l);obtain⟨Y,hY⟩:=aB (nv m);have h1:=λW=>kF l W zo;have h2:=λW=>kF m W zo;rw[hX]at h1 hle⊢;rw[hY]at h2 hle hm0⊢;obtain⟨s,hs,Wu,FI,Gz,Gi,UT,hbl⟩:=akk hm0;have Uw:0<X:=by omega
 have hlx:=GI Uw;have Cr:=GI hm0;obtain⟨lx,wN⟩:=aB (ln X);obtain⟨ly,wO⟩:=aB (ln Y);have ov:=dO X;have sV:=dO Y;rw[wN]at h1 hlx ov;rw[wO]at h2 Cr sV FI Gz Gi Wu UT hbl;obtain⟨cx,jv⟩:=aB ((l.length+7)/8);obtain⟨cy,uF⟩:=aB ((m.length+7)/8);rw[jv]at h1;rw[uF]at h2;have Gk:lx<=cx:=by rw[<-wN,<-jv,<-hX];exact ik (Eu l)
 have Gl:ly<=cy:=by rw[<-wO,<-uF,<-hY];exact ik (Eu m)
 have ahB:cx<=8589934593:=by omega
 have FT:cy<=8589934593:=by omega
 have kv:¬cJ X Y<0:=by unfold cJ;rw[if_neg zo];split<;>omega
 have wG:X*2^s/(Y*2^s)=X/Y:=Nat.mul_div_mul_right _ _ (Nat.pow_pos zd);have hdr:X*2^s% (Y*2^s)=X%Y*2^s:=Nat.mul_mod_mul_right _ _ _;have dY:X*2^s<WW^(lx+1):=by rw[Nat.pow_succ];exact Nat.mul_lt_mul'' ov (by rw[jF];exact Nat.pow_lt_pow_right zd hs)
 have VH:=ik dY;obtain⟨X',Mz⟩:=aB (X*2^s);obtain⟨Y',MD⟩:=aB (Y*2^s);have GA:=λb W h=>PF b 0 lx cx X s W zo zo h ov;have NJ:=λb W h=>PF b 0 ly cy Y s W zo zo h sV;rw[Mz]at wG hdr dY VH;rw[MD]at wG hdr FI Gz Gi;simp only[Mz,show s/64=0 by omega,Nat.add_zero]at GA;simp only[MD,show s/64=0 by omega,Nat.add_zero,Gi]at NJ;obtain⟨lX,Gg⟩:=aB (ln X');rw[Gg]at VH;simp only[Gg]at GA;have MB:X'<WW^lX:=by rw[<-Gg];exact dO _
 have wF:=λb W h=>Li (some ⟨b,0,none⟩) lX (lx+1) X' ((lx:Int)+2) W zo zo zo h MB;rw[show max ((lx:Int)+2).toNat lX=lx+2 by omega]at wF;have Cs:∀W,Calls Tryz.prog 174 #[.int .u64 (dg Y (ly-1):Int)] W λe w'=>e=.returned (.int .i64 (s:Int))/\W=w':=λW=>by have:=Oi (dg Y (ly-1)) W (iO _ _);rw[show(64-(bA (dg Y (ly-1)):Int))=(s:Int)by omega]at this;exact this
 have lA:ly<=lx:=by
  have h3:¬lx<ly:=λh3=>by have:=Od (v:=X) (u:=Y) (by rw[wN,wO];exact h3);omega
  omega
 have hmk:=xf ((lx:Int)+2-ly) (lx+2-ly) zo zo;obtain⟨H1,H2,ac5,ac6,Js,Kb,DT,Jc,HYW,AV,Hdq,Au⟩:=ij h1 h2 GA NJ wF Cs ov sV FI Gz wG hdr;obtain⟨anH,xO,Hm0⟩:=cG MB dY hm0;clear h1 h2 GA NJ wF Cs ov sV FI Gz wG hdr MB dY hX hY Wu wN wO jv uF Mz MD Gg Gi hle Uw hm0 UT hbl;go_enter Tryz.func207,Tryz.ntmps207;go_wp2_with fail;refine(H1.out w).mono ?_;rintro e w1 ⟨rfl,bR,hb1,eP⟩;obtain⟨dF,bN⟩:=aI bR hb1;clear bR hb1;go_wp2_with fail;refine(H2.out w1).mono ?_;rintro e w2 ⟨rfl,dL,hb2,yU⟩;obtain⟨eo,cE⟩:=aI dL (aH bN.out hb2);replace dF:=af (dF.out.below hb2);have s1:=dF.out.lt;have s2:=eo.out.lt;clear dL hb2;have ahV:((ly:Int)==0)=false:=by simp;omega
 go_wp2_with fail;refine(xc w.heap.size 0 lx cx X w1.heap.size 0 ly cy Y w2 zo eP (dF.out.lim _ eP) DT.out zo yU (eo.out.lim _ yU) Jc.out).mono ?_;rintro e w3 ⟨rfl,hb3⟩;replace dF:=af (dF.out.below hb3);replace eo:=af (eo.out.below hb3);have dG:=af (aH cE.out hb3);clear hb3;obtain⟨c,hc⟩:=aB (cJ X Y);rw[hc]at kv⊢;clear hc;have hdec:decide (c<0)=false:=by simp;omega
 have i1:=CO ly cy (ly-1) ((ly:Int)-1) (rfl:(some ⟨w1.heap.size,0,none⟩:Option Addr)=_) zo zo;rw[Nat.mul_one,Nat.zero_add]at i1;have cY:w3.cell? ⟨w1.heap.size,ly-1,none⟩=some (.int .u64 (dg Y (ly-1):Int)):=by rw[eo.out.cell,fA _ _ _ zo]
 go_wp2_with fail;refine(Kb.out w3).mono ?_;rintro e w4 ⟨rfl,rfl⟩;clear cY i1;go_wp2_with fail;refine(ac5.out w.heap.size w3 (dF.out.lim _ eP)).mono ?_;rintro e w4 ⟨rfl,qB,qb,qle⟩;have IQ:=af qB;replace eo:=af (eo.out.below qb);have jZ:=af (aH dG.out qb);have s4:=IQ.out.lt;clear qB qb;go_wp2_with fail;refine(Js.out w3.heap.size w4 (λ_=>⟨_,_,rfl,IQ.out.lim _ zo⟩)).mono ?_;rintro e w5 ⟨rfl,qB,qb⟩;have kM:=af qB;replace eo:=af (eo.out.below qb);have fB:=af (aH jZ.out qb);have s5:=kM.out.lt;clear qB qb;go_wp2_with fail;refine(ac6.out w1.heap.size w5 (eo.out.lim _ yU)).mono ?_;rintro e w6 ⟨rfl,qB,qb,aqU⟩;have lN:=af qB;replace kM:=af (kM.out.below qb);have xQ:=af (aH fB.out qb);have s6:=lN.out.lt;have YN:=kM.out.lt;have q4:=jZ.out.size;clear qB qb dF eo IQ bN cE dG jZ fB;obtain⟨M,hM⟩:=aB (lx+2-ly);rw[hM]at hmk;obtain⟨lB,hlB⟩:=aB w4.heap.size;obtain⟨yB,WN⟩:=aB w5.heap.size;rw[hlB]at kM s5 YN q4⊢;rw[WN]at lN s6 s5⊢;obtain⟨W7,yJ⟩:=aB (w6.alloc (.cells #[.slice (some ⟨lB,0,none⟩) (lx+2) (lx+2),.slice (some ⟨yB,0,none⟩) ly (ly+1)] 239));have ni:Bw w6 W7:=by rw[<-yJ];exact zl
 have Jw:Hid (aj W7 w6.heap.size 239 [.slice (some ⟨lB,0,none⟩) (lx+2) (lx+2),.slice (some ⟨yB,0,none⟩) ly (ly+1)]):=by rw[<-yJ];exact aj.new _ _ _
 have s7:W7.heap.size=w6.heap.size+1:=by rw[<-yJ];simp
 obtain⟨W8,Ce⟩:=aB (W7.alloc (.cells (bC M λ_=>0).toArray 107));have uE:Bw W7 W8:=by rw[<-Ce];exact zl
 have Ho:Hid (aj W8 W7.heap.size 107 (bC M λ_=>0)):=by rw[<-Ce];exact aj.new _ _ _
 have Hd:=af (Jw.out.below uE);replace kM:=af ((kM.out.below ni).below uE);replace lN:=af ((lN.out.below ni).below uE);have qT:=af (aH (aH xQ.out ni) uE);have Dq:=xQ.out.size;have S7:=af s7;clear ni uE xQ hlB WN s7;obtain⟨d0,d1⟩:=Jw.out.c2;go_wp2_with fail;have Re:Hid (dm W8 yB 0 ly Y'):=lN.out.lim _ zo;have BR:M+ly=lx+2:=by omega
 have MA:X'<Y'*WW^M:=by have h1:WW^(ly-1)<=Y':=ZG (by have:=AV.out;omega);have h2:WW^(ly-1) *WW^M<=Y'*WW^M:=Nat.mul_le_mul_right _ h1;rw[<-Nat.pow_add,show ly-1+M=lx+1 by omega]at h2;exact Nat.lt_of_lt_of_le xO.out h2
 have Uz:0<Y':=by
  rcases Nat.eq_zero_or_pos Y' with h|h
  . have:=AV.out;rw[h]at this;unfold dg at this;simp at this
  . exact h
 have Ul:X'/Y'<WW^M:=Nat.div_lt_of_lt_mul MA;obtain⟨HXM,HYp,HQM⟩:=cG MA Uz Ul;clear MA Uz Ul d0 d1 yJ Ce hmk hM;obtain⟨oB,Nj⟩:=aB W7.heap.size;rw[Nj]at Ho⊢;have VV:oB=w6.heap.size+1:=by rw[<-Nj];exact S7.out
 obtain⟨dB,Va⟩:=aB w6.heap.size;rw[Va]at Hd VV s6 YN Dq⊢;have ao2:dB<oB:=by omega
 clear Nj Va S7 Jw VV;go_loopw[12] (λx wr=>∃(k:Nat) (i:Int),k<=M/\i=(k:Int)-1/\x=.int .i64 i/\aj wr dB 239 [.slice (some ⟨lB,0,none⟩) (lx+2) (lx+2),.slice (some ⟨yB,0,none⟩) ly (ly+1)]/\aj wr lB 107 (bC (lx+2) (dg (X'% (Y'*WW^k))))/\aj wr oB 107 (bC M λj=>if k<=j then dg (X'/Y') j else 0)/\dm wr yB 0 ly Y'/\Bw w wr) (λx _=>(intOf x+1).toNat);case atStart=>
  refine⟨M,_,Nat.le_refl _,rfl,rfl,Hd.out,?_,?_,Re.out,qT.out⟩
  . rw[Nat.mod_eq_of_lt HXM.out];exact kM.out
  . have e:bC M (λj=>if M<=j then dg (X'/Y') j else 0)=bC M λ_=>0:=jo (λj hj=>by rw[if_neg zo]);rw[e];exact Ho.out
 case round=>
  clear Hd kM Ho Re qT lN;obtain⟨k,i,hk,hi,rfl,pd,pl,po,py,pb⟩:=hrel;obtain⟨Hd,Hl,Ho,Hy,Hb⟩:=gT pd pl po py pb;clear pd pl po py pb;obtain⟨d0,d1⟩:=Hd.out.c2;by_cases ft:0<k
  . obtain⟨j,rfl⟩:∃j,k=j+1:=⟨k-1,by omega⟩;obtain rfl:i=(j:Int):=by omega
    clear hi;go_wp2_with fail;refine(af0 lB (lx+2) (lx+2) (X'% (Y'*WW^(j+1))) yB 0 ly (ly+1) Y' j wr zo (Nat.le_refl _) Cr zo Hl.out Hy.out HYW.out AV.out (Nat.mod_lt _ (Nat.mul_pos HYp.out (dw _))) zo zo).mono ?_;rintro e w9 ⟨rfl,qB,qg⟩;rw[Lu]at qB⊢;have hrest:=af4 X' Y' j;rw[Lu]at hrest;rw[hrest]at qB;have kn:∀b,b≠lB->some b≠some lB:=λb h e=>h (Option.some.inj e);obtain⟨Hl9,QI,Kk,Hy9,Hb9⟩:=gT qB (Hd.out.grown qg (kn _ zo)) (Ho.out.grown qg (kn _ zo)) (Hy.out.grown qg (kn _ zo)) (Hb.out.grown qg Hb.out.size (λb e=>by have:=Option.some.inj e;omega));obtain⟨q,hq⟩:=aB (dg (X'/Y') j);rw[hq];have Hq:=af hq;have i2:=CO M M j (j:Int) (rfl:(some ⟨oB,0,none⟩:Option Addr)=_) zo rfl;rw[Nat.mul_one,Nat.zero_add]at i2;have co:w9.cell? ⟨oB,j,none⟩=some (.int .u64 ((if j+1<=j then dg (X'/Y') j else 0:Nat):Int)):=by rw[Kk.out.cell,fA _ _ _ zo]
    have fo:w9.frozen? ⟨oB,j,none⟩=false:=Kk.out.free j;clear qB qg hrest hq d0 d1;obtain⟨d0,d1⟩:=QI.out.c2;go_wp2;go_roundw;case rel=>
     refine⟨j,(j:Int)-1,by omega,rfl,by go_num,QI.out.so oB j zo _,Hl9.out.so oB j zo _,?_,?_,Hb9.out.sc oB j zo _⟩
     . have h:=Kk.out.set j (.int .u64 (q:Int));rw[zT]at h
       have e:bC M (λi=>if i=j then q else if j+1<=i then dg (X'/Y') i else 0)=bC M (λi=>if j<=i then dg (X'/Y') i else 0):=jo (λi hi=>by
        by_cases h1:i=j
        . subst h1;rw[if_pos rfl,if_pos (Nat.le_refl _)];exact Hq.out.symm
        . rw[if_neg h1];by_cases h2:j+1<=i
          . rw[if_pos h2,if_pos zo]
          . rw[if_neg h2,if_neg zo])
       rw[e]at h;exact h
     . exact λt ht=>fp zp (Hy9.out t ht)
    case measure=>simp[intOf]
  . obtain rfl:k=0:=by omega
    obtain rfl:i= -1:=by omega
    have HL:Hid (dm wr oB 0 M (X'/Y')):=λt ht=>by rw[Ho.out.cell,Nat.zero_add,fA _ _ _ ht,if_pos (Nat.zero_le _)]
    have hR:X'% (Y'*WW^0)=X'%Y':=by rw[Nat.pow_zero,Nat.mul_one]
    rw[hR]at Hl;have Qq:Hid (X'%Y'<WW^(lx+2)):=Nat.lt_of_le_of_lt (Nat.mod_le _ _) (Nat.lt_of_lt_of_le xO.out (Nat.pow_le_pow_right iM zo));have VG:=ik Qq.out;have HR:=af (show X'%Y'/2^s=X%Y by rw[Au.out];exact Nat.mul_div_cancel _ (Nat.pow_pos zd));clear hi hR;go_wp2_with fail;have kN:=Hb;clear Hb;have Hb:Hid (Bw wr wr):=Below.refl _ _;obtain⟨d0,d1⟩:=Hd.out.c2;refine bW (λw'=>w'.cell? ⟨dB,0,none⟩=some (.slice (some ⟨lB,0,none⟩) (lx+2) (lx+2))) (λi=>Nat.blt i 100000) [(0,true),(2,true),(3,true),(5,true),(1,false),(4,false),(6,false),(7,false),(8,true),(9,true),(10,true)] zk zk rfl zk zc d0 ?_;iterate 4 (refine pT rfl rfl ?_;try simp only[UU])
    refine aC rfl rfl (λK hK=>?_);go_simp;with_reducible refine(vz oB 0 M M (X'/Y') _ zo (Nat.le_refl _) (HL.out.below (by first|exact Hb.out|exact Below.drew Hb.out)) HQM.out).mono ?_
    rintro e y1 ⟨rfl,hq⟩;have ae:Bw wr y1:=by first|exact hq|exact aM hq
    clear d0 d1;replace Hd:=kB Hd ae;obtain⟨d0,d1⟩:=Hd.out.c2;replace Hb:=ak Hb ae;clear ae;refine hK _ _ (λ_=>d0) ?_;clear hK K;try simp only[UU]
    refine aC rfl rfl (λK hK=>?_);go_simp;with_reducible refine(afw lB 0 (lx+2) (lx+2) (X'%Y') _ zo (Nat.le_refl _) ((Hl.out.lim _ (Nat.le_refl _)).below (by first|exact Hb.out|exact Below.drew Hb.out)) Qq.out).mono ?_
    rintro e y2 ⟨rfl,hq⟩;have ae:Bw y1 y2:=by first|exact hq|exact aM hq
    clear d0 d1;replace Hd:=kB Hd ae;obtain⟨d0,d1⟩:=Hd.out.c2;replace Hb:=ak Hb ae;clear ae;refine hK _ _ (λ_=>d0) ?_;clear hK K;try simp only[UU]
    refine aC rfl rfl (λK hK=>?_);go_simp;with_reducible refine(af8 lB (ln (X'%Y')) (lx+2) (X'%Y') s _ zo VG hs ((Hl.out.lim _ VG).below (by first|exact Hb.out|exact Below.drew Hb.out)) (dO _)).mono ?_
    rintro e y3 ⟨a,k,c2,rfl,⟨qL,qc,qk,qv⟩,hq⟩;have ae:Bw y2 y3:=by first|exact hq|exact aM hq
    clear d0 d1;replace Hd:=kB Hd ae;obtain⟨d0,d1⟩:=Hd.out.c2;replace Hb:=ak Hb ae;clear ae;refine hK _ _ (λ_=>d0) ?_;clear hK K;try simp only[UU]
    refine aC rfl rfl (λK hK=>?_);go_simp;with_reducible refine(ZB a k c2 (X'%Y'/2^s) _ zo qc qL qv).mono ?_
    rintro e y4 ⟨rfl,hq⟩;have ae:Bw y3 y4:=by first|exact hq|exact aM hq
    clear d0 d1;replace Hd:=kB Hd ae;obtain⟨d0,d1⟩:=Hd.out.c2;replace Hb:=ak Hb ae;clear ae;refine hK _ _ (λ_=>d0) ?_;clear hK K;try simp only[UU]
    iterate 3 (refine pT rfl rfl ?_;try simp only[UU])
    simp only[aV];go_wp2;refine bodyPost_ret (v:=.tuple #[.string (bs (nt (X/Y))),.string (bs (nt (X%Y))),.bool true]) (by have h1:=Hdq.out;have h2:=HR.out;simp[results,Tryz.results207,go_sem,h1,h2]) rfl ⟨rfl,aH kN.out Hb.out⟩
section
variable {P:Program} {md:Region.Mode} {ops:Array Oper} {Q:Exit->Act->World->Prop} {S:World->Prop} {J:Nat->Bool}
def Bc (md:Region.Mode)(ops:Array Oper)(J:Nat->Bool)(es:List Nat)(D:Nat->List Nat)(last:List (Nat×Bool)):Nat->Array Bool->Bool
 |0,listed=>es.all (λk=>listed.getD k false)&&rU md ops J last listed
 |n+1,listed=>listed.size==ops.size&& !(Region.ready md ops listed).isEmpty&&(Region.ready md ops listed).all λk=>es.contains k&& !(listed.getD k false)&&decide (k<listed.size)&&(D k).all (λd=>es.contains d&&listed.getD d false)&&Bc md ops J es D last n (listed.setIfInBounds k true)
def rD (es:List Nat)(listed:Array Bool)(i:Nat):Bool:=es.contains i&&listed.getD i false
theorem af6 {es:List Nat}{listed:Array Bool}{k:Nat}(hk:es.contains k=true)(hl:k<listed.size):rD es (listed.setIfInBounds k true)=λi=>i==k||rD es listed i:=by
 funext i
 unfold rD;by_cases h:i=k
 . subst h;simp only[beq_self_eq_true,Bool.true_or];rw[hk];simp[hl]
 . have h2:(i==k)=false:=by simpa using h
   rw[h2,Bool.false_or,getD_set_ne false (λe=>h e.symm)]
theorem anj (hs:Region.noSelect ops=true)(hQ:∀(o:Oper) c a v w,Q (.panic c) (a.put o.dst v) w->Q (.panic c) a w)(es:List Nat)(D:Nat->List Nat)(last:List (Nat×Bool))(I:(Nat->Bool)->Act->World->Prop)
 (h2:∀dn a w,I dn a w->S w) (h3:∀k∈es,∀dn a w,dn k=false->(∀d∈D k,dn d=true)->I dn a w->wpOp P ops Q k (I λi=>i==k||dn i) a w) (h4:∀dn a w,(∀k∈es,dn k=true)->I dn a w->aV P ops Q S J last a w) (n:Nat):
 ∀(listed:Array Bool) (a:Act) (w:World),Closed md ops listed->Bc md ops J es D last n listed=true->I (rD es listed) a w->ua P md ops Q S J (last.length+n) listed a w:=by
 induction n with
 |zero=>intro listed a w hc hok h;simp only[Bc,Bool.and_eq_true,List.all_eq_true]at hok;exact Dy hs hQ last _ _ _ hc hok.2 (λ_=>h2 _ _ _ h) (h4 _ _ _ (λk hk=>by unfold rD;rw[hok.1 k hk];simpa using hk) h)
 | succ n ih=>
   intro listed a w hc hok h;simp only[Bc,Bool.and_eq_true,List.all_eq_true]at hok;obtain⟨⟨_,h5⟩,h6⟩:=hok;refine⟨λh0=>(by rw[h0]at h5;simp at h5),λk hk=>?_⟩;obtain⟨⟨⟨⟨q1,q2⟩,q3⟩,q4⟩,q5⟩:=h6 k hk;have q3':k<listed.size:=of_decide_eq_true q3;have hf:rD es listed k=false:=by unfold rD;rw[q1];simpa using q2
   refine wpOp_mono (λa1 w1 q=>⟨λ_=>h2 _ _ _ q,ih _ _ _ (hc.list hk) q5 ?_⟩) (h3 k (by simpa using q1) _ a w hf (λd hd=>by unfold rD;rw[Bool.and_eq_true];exact q4 d hd) h);rw[af6 q1 q3'];exact q
def De (md:Region.Mode)(ops:Array Oper)(J:Nat->Bool)(es:List Nat)(D:Nat->List Nat)(last:List (Nat×Bool)):List Nat->Array Bool->Bool
 |[],listed=>es.all (λk=>!(listed.getD k false))&&Bc md ops J es D last es.length listed
 |x::r,listed=>(Region.ready md ops listed).contains x&&Region.free md ops listed x&&waits md ops J x&&De md ops J es D last r (listed.setIfInBounds x true)
def ani (P:Program)(ops:Array Oper)(Q:Exit->Act->World->Prop)(S:World->Prop)(J:Nat->Bool)(es:List Nat)(D:Nat->List Nat)(last:List (Nat×Bool))(a:Act)(w:World):Prop:=
 ∃I:(Nat->Bool)->Act->World->Prop,I (λ_=>false) a w/\(∀dn a w,I dn a w->S w)/\(∀k∈es,∀dn a w,dn k=false->(∀d∈D k,dn d=true)->I dn a w->wpOp P ops Q k (I λi=>i==k||dn i) a w)/\∀dn a w,(∀k∈es,dn k=true)->I dn a w->aV P ops Q S J last a w
def zU (P:Program)(ops:Array Oper)(Q:Exit->Act->World->Prop)(S:World->Prop)(J:Nat->Bool)(es:List Nat)(D:Nat->List Nat)(last:List (Nat×Bool)):List Nat->Act->World->Prop
 |[],a,w=>ani P ops Q S J es D last a w
 |x::r,a,w=>∃o v,ops[x]?=some o/\YieldsIf P ops S o v a/\zU P ops Q S J es D last r (a.put o.dst v) w
theorem ank (hs:Region.noSelect ops=true)(hQ:∀(o:Oper) c a v w,Q (.panic c) (a.put o.dst v) w->Q (.panic c) a w)(es:List Nat)(D:Nat->List Nat)(last:List (Nat×Bool))(r:List Nat):
 ∀(listed:Array Bool) (a:Act) (w:World),Closed md ops listed->De md ops J es D last r listed=true->S w->zU P ops Q S J es D last r a w->ua P md ops Q S J (last.length+es.length+r.length) listed a w:=by
 induction r with
 | nil=>
   intro listed a w hc hok hS h;simp only[De,Bool.and_eq_true,List.all_eq_true]at hok;obtain⟨I,h1,h2,h3,h4⟩:=h;have e:rD es listed=λ_=>false:=by
    funext i
    unfold rD;by_cases hi:es.contains i=true
    . have:=hok.1 i (by simpa using hi);rw[hi];simpa using this
    . simp only[Bool.not_eq_true]at hi;rw[hi];rfl
   exact anj hs hQ es D last I h2 h3 h4 es.length listed a w hc hok.2 (by rw[e];exact h1)
 |cons x r ih=>intro listed a w hc hok hS h;simp only[De,Bool.and_eq_true]at hok;obtain⟨⟨⟨h1,h2⟩,h3⟩,h4⟩:=hok;obtain⟨o,v,ho,hy,h⟩:=h;exact IK ho (Region.noSelect_spec hs) (λc a w=>hQ o c a v w) h3 (last.length+es.length+r.length) listed a w hc h2 (by simpa using h1) hy hS (ih _ _ _ (hc.list (by simpa using h1)) h4 hS h)
theorem ano {id:Nat}{a:Act}{w:World}(S:World->Prop)(J:Nat->Bool)(es:List Nat)(D:Nat->List Nat)(last:List (Nat×Bool))(r:List Nat)(hm:P.follows .mixedOrders=true)(hs:Region.noSelect ops=true)
 (hl:last.length+es.length+r.length=ops.size) (hok:De .any ops J es D last r (Array.replicate ops.size false)=true)
 (hQ:∀(o:Oper) c a v w,Q (.panic c) (a.put o.dst v) w->Q (.panic c) a w) (hS:S w.drew) (h:zU P ops Q S J es D last r a w.drew):(Code.region id ops true).wp P Q a w:=by
 refine wp_region_any hm (IL ops.size _ _ _ ?_ (S:=S) (J:=J));have:=ank (md:=.any) (S:=S) (J:=J) hs hQ es D last r (Array.replicate ops.size false) a w.drew (Closed.empty _) hok hS h;rw[hl]at this;exact this
theorem akY {x:Nat}{es:List Nat}{D:Nat->List Nat}{last:List (Nat×Bool)}{r:List Nat}{o:Oper}{v:Value}{a:Act}{w:World}(ho:ops.toList[x]?=some o)(hw:Region.wanted o (yielded ops a.tmps)=true)
 (hy:∀w',S w'->(execOp a.eval o).run P w'=.ok (.value v) w') (h:zU P ops Q S J es D last r (a.put o.dst v) w):zU P ops Q S J es D last (x::r) a w:=
 ⟨o,v,by rw[<-Array.getElem?_toList];exact ho,.inl ⟨hw,hy⟩,h⟩
theorem akX {es:List Nat}{D:Nat->List Nat}{last:List (Nat×Bool)}{a:Act}{w:World}(I:Act->(Nat->Bool)->Act->World->Prop)(h1:I a (λ_=>false) a w)(h2:∀dn a' w',I a dn a' w'->S w')
 (h3:∀k∈es,∀dn a' w',dn k=false->(∀d∈D k,dn d=true)->I a dn a' w'->wpOp P ops Q k (I a λi=>i==k||dn i) a' w') (h4:∀dn a' w',(∀k∈es,dn k=true)->I a dn a' w'->aV P ops Q S J last a' w'):zU P ops Q S J es D last [] a w:=
 ⟨I a,h1,h2,h3,h4⟩
theorem zF {k:Nat}{o:Oper}{a:Act}{w:World}{R:Act->World->Prop}(ho:ops.toList[k]?=some o)(hw:Region.wanted o (yielded ops a.tmps)=true)(h:∀K:Act->World->Prop,(∀a' w',R a' w'->K a' w')->o.wp P a w K Q):wpOp P ops Q k R a w:=by rw[Array.getElem?_toList]at ho;unfold wpOp;simp only[ho,hw,if_true];exact .inl (h _ (λa' w' h=>h))
theorem zI (a:Act)(k:Nat):a.put (some k) (a.tmps.getD k undef)=a:=by
 unfold Act.put;have:a.tmps.setIfInBounds k (a.tmps.getD k undef)=a.tmps:=by
  apply Array.ext
  . simp
  . intro i h1 h2;rw[Array.getElem_setIfInBounds];split
    . rename_i e;subst e;simp[h2]
    . rfl
 cases a
 simp only at this⊢;rw[this]
end
end Go.Proofs.YtoopepmmepmfnaaGreatDoor
