/- A statement whose order is open,walked in one order: what only reads is taken first;S is asked behind each operation but the last ones (J),for which everything else waits. -/
import Derived.Test.YtdaadlblknpipaaGreatDoorZ6
import Derived.OrdersHeld
import Derived.Test.YtdaadlblknpipaaGreatDoorZ5
set_option linter.unusedVariables false
set_option linter.unusedSimpArgs false
set_option maxRecDepth 100000
set_option maxHeartbeats 16000000
namespace Go.Proofs.YtdaadlblknpipaaGreatDoor
open Go.RowKit
theorem U1 {α:Type}(l:List α)(i:Nat)(a:α):l.toArray.setIfInBounds i a=(l.set i a).toArray:=by simp
theorem U2 {α:Type}(x:α)(l:List α)(a:α):(x::l).set 0 a=a::l:=rfl
theorem U3 {α:Type}(x:α)(l:List α)(i:Nat)(a:α):(x::l).set (i+1) a=x::l.set i a:=rfl
section
variable {P:Program} {md:Region.Mode} {ops:Array Oper} {Q:Exit->Act->World->Prop} {S:World->Prop} {J:Nat->Bool}
def sJ (P:Program)(md:Region.Mode)(ops:Array Oper)(Q:Exit->Act->World->Prop)(S:World->Prop)(J:Nat->Bool):Nat->Array Bool->Act->World->Prop
 |0,listed,a,w=>Region.ready md ops listed=[]/\Q .normal a w
 | fuel+1,listed,a,w=>
   (Region.ready md ops listed=[]->Q .normal a w)/\
   ∀i∈Region.ready md ops listed,wpOp P ops Q i (λa' w'=>(J i=true->S w')/\sJ P md ops Q S J fuel (listed.setIfInBounds i true) a' w') a w
theorem EL (fuel:Nat):∀(listed:Array Bool) (a:Act) (w:World),sJ P md ops Q S J fuel listed a w->wpAny P md ops Q fuel listed a w:=by
 induction fuel with
 |zero=>intro _ _ _ h;exact h
 |succ n ih=>intro _ _ _ h;exact⟨h.1,λi hi=>wpOp_mono (λa' w' h'=>ih _ a' w' h'.2) (h.2 i hi)⟩
def reach (md:Region.Mode)(ops:Array Oper)(i:Nat):Nat->Nat->Bool
 |0,_=>false
 | n+1,j=>match ops[j]? with
   |some oj=>oj.after.any λe=>Region.binds md e&&(e.on==i||reach md ops i n e.on)
   |none=>false
def waits (md:Region.Mode)(ops:Array Oper)(J:Nat->Bool)(i:Nat):Bool:=
 (List.range ops.size).all λj=>j==i||J j||reach md ops i ops.size j
def Closed (md:Region.Mode)(ops:Array Oper)(listed:Array Bool):Prop:=
 ∀(k:Nat) (ok:Oper),listed.getD k false=true->ops[k]?=some ok->∀e∈ok.after,Region.binds md e=true->listed.getD e.on false=true
theorem Closed.empty (n:Nat):Closed md ops (Array.replicate n false):=by
 intro k ok h;exfalso
 rw[Array.getD_eq_getD_getElem?,Array.getElem?_replicate]at h;split at h<;>simp at h
theorem Closed.list {listed:Array Bool}(h:Closed md ops listed){j:Nat}(hj:j∈Region.ready md ops listed):Closed md ops (listed.setIfInBounds j true):=by
 obtain⟨MX,oj,lJ,hall⟩:=mem_ready.1 hj;have up:∀n,listed.getD n false=true->(listed.setIfInBounds j true).getD n false=true:=by
  intro n hn;by_cases hjn:j=n
  . subst hjn;rcases Nat.lt_or_ge j listed.size with h'|h'
    . simp[h']
    . simp[Array.getD_eq_getD_getElem?,Array.getElem?_eq_none h']at hn
  . rw[getD_set_ne false hjn];exact hn
 intro k ok hk hok e he hb;by_cases hjk:j=k
 . subst hjk;rw[lJ]at hok;cases hok
   exact up _ (hall e he hb)
 . rw[getD_set_ne false hjk]at hk;exact up _ (h k ok hk hok e he hb)
theorem alf {listed:Array Bool}(hc:Closed md ops listed){i:Nat}(n:Nat):∀(j:Nat) (oj:Oper),ops[j]?=some oj->(∀e∈oj.after,Region.binds md e=true->listed.getD e.on false=true)->reach md ops i n j=true->listed.getD i false=true:=by
 induction n with
 |zero=>intro j oj _ _ h;cases h
 | succ n ih=>
   intro j oj lJ hall h;unfold reach at h;rw[lJ]at h;simp only at h;rw[Array.any_eq_true]at h;obtain⟨k,hk,h2⟩:=h;simp only[Bool.and_eq_true,Bool.or_eq_true,beq_iff_eq]at h2;have h3:=hall _ (Array.getElem_mem hk) h2.1;rcases h2.2 with h4|h4
   . rw[<-h4];exact h3
   . cases ho:ops[oj.after[k].on]? with
     | none=>
       cases n with
       |zero=>cases h4
       |succ m=>unfold reach at h4;rw[ho]at h4;cases h4
     |some ok=>exact ih _ ok ho (hc _ ok h3 ho) h4
theorem anb {listed:Array Bool}(hc:Closed md ops listed){i:Nat}(h:waits md ops J i=true)(Ad:listed.getD i true=false){j:Nat}(hj:j∈Region.ready md ops listed)(hne:j≠i):J j=true:=by
 obtain⟨MX,oj,lJ,hall⟩:=mem_ready.1 hj;unfold waits at h;rw[List.all_eq_true]at h;have h1:=h j (List.mem_range.2 (Array.getElem?_eq_some_iff.1 lJ).1);simp only[Bool.or_eq_true,beq_iff_eq]at h1;rcases h1 with(h1|h1) |h1
 . exact absurd h1 hne
 . exact h1
 . have h2:=alf hc _ j oj lJ hall h1;rcases Nat.lt_or_ge i listed.size with h'|h'
   . simp[h']at Ad h2;rw[Ad]at h2;cases h2
   . simp[Array.getD_eq_getD_getElem?,Array.getElem?_eq_none h']at h2
theorem EJ {i:Nat}{oi:Oper}{v:Value}(hi:ops[i]?=some oi)(mK:∀(j:Nat) (o:Oper) cs b,ops[j]?=some o->o.op≠ .select cs b)
 (hQ:∀c a w,Q (.panic c) (a.put oi.dst v) w->Q (.panic c) a w) (hJ:waits md ops J i=true) (fuel:Nat):
 ∀(listed:Array Bool) (a:Act) (w:World),Closed md ops listed->Region.free md ops listed i=true->i∈Region.ready md ops listed->YieldsIf P ops S oi v a->S w->
  sJ P md ops Q S J fuel (listed.setIfInBounds i true) (a.put oi.dst v) w->sJ P md ops Q S J (fuel+1) listed a w:=by
 induction fuel with
 | zero=>
   intro listed a w _ _ hr hy hS H;refine⟨λh=>(by rw[h]at hr;cases hr),λj hj=>?_⟩;by_cases hji:j=i
   . subst hji;exact hy.wpOp hi hS ⟨λ_=>hS,H⟩
   . have:=ready_mono hj hji;rw[H.1]at this;cases this
 | succ n ih=>
   intro listed a w hc hf hr hy hS H;refine⟨λh=>(by rw[h]at hr;cases hr),λj hj=>?_⟩;by_cases hji:j=i
   . subst hji;exact hy.wpOp hi hS ⟨λ_=>hS,H⟩
   . have h1:=H.2 j (ready_mono hj hji);obtain⟨MX,oj,lJ,hall⟩:=mem_ready.1 hj;have Ad:=(mem_ready.1 hr).1;have ahL:∀e∈oj.after,Region.binds md e=true->e.on≠i:=by
      intro e he hb heq;have h2:=hall e he hb;rw[heq]at h2;rcases Nat.lt_or_ge i listed.size with h'|h'
      . simp[h']at Ad h2;rw[Ad]at h2;cases h2
      . simp[Array.getElem?_eq_none h']at h2
     have hjJ:J j=true:=anb hc hJ Ad hj hji;have h2:=wpOp_putIf lJ (Region.free_spec hi hf j oj lJ hji MX ahL) (λcs b=>mK i oi cs b hi) (λcs b=>mK j oj cs b lJ) hQ hy h1;have hf':Region.free md ops (listed.setIfInBounds j true) i=true:=by
      unfold Region.free at hf⊢;rw[hi]at hf⊢;simp only[List.all_eq_true]at hf⊢;intro k hk;have:=hf k hk;simp only[Bool.or_eq_true]at this⊢;rcases this with(h3|h3) |h3
      . exact .inl (.inl h3)
      . refine .inl (.inr ?_);by_cases hjk:j=k
        . subst hjk;rcases Nat.lt_or_ge j listed.size with h'|h'
          . simp[h']
          . simp
        . rw[getD_set_ne true hjk];exact h3
      . exact .inr h3
     refine wpOp_mono (λa' w' h3=>⟨h3.2.1,ih (listed.setIfInBounds j true) a' w' (hc.list hj) hf' (ready_mono hr (Ne.symm hji)) h3.1 (h3.2.1 hjJ) ?_⟩) h2;rw[Array.setIfInBounds_comm _ _ hji];exact h3.2.2
def sG (md:Region.Mode)(ops:Array Oper)(J:Nat->Bool):List (Nat×Bool)->Array Bool->Bool
 |[],listed=>(Region.ready md ops listed).isEmpty
 | (i,true)::rest,listed=>(Region.ready md ops listed).contains i&&Region.free md ops listed i&&waits md ops J i&&sG md ops J rest (listed.setIfInBounds i true)
 | (i,false)::rest,listed=>Region.ready md ops listed==[i]&&(J i|| !rest.any (·.2))&&sG md ops J rest (listed.setIfInBounds i true)
def aZ (P:Program)(ops:Array Oper)(Q:Exit->Act->World->Prop)(S:World->Prop)(J:Nat->Bool):List (Nat×Bool)->Act->World->Prop
 |[],a,w=>Q .normal a w
 | (i,true)::rest,a,w=>∃o v,ops[i]?=some o/\YieldsIf P ops S o v a/\aZ P ops Q S J rest (a.put o.dst v) w
 | (i,false)::rest,a,w=>wpOp P ops Q i (λa' w'=>(J i=true->S w')/\aZ P ops Q S J rest a' w') a w
theorem EK (hs:Region.noSelect ops=true)(hQ:∀(o:Oper) c a v w,Q (.panic c) (a.put o.dst v) w->Q (.panic c) a w)(plan:List (Nat×Bool)):
 ∀(listed:Array Bool) (a:Act) (w:World),Closed md ops listed->sG md ops J plan listed=true->(plan.any (·.2)=true->S w)->aZ P ops Q S J plan a w->sJ P md ops Q S J plan.length listed a w:=by
 induction plan with
 |nil=>intro listed a w _ hok _ h;exact⟨List.isEmpty_iff.1 hok,h⟩
 | cons x rest ih=>
   obtain⟨i,b⟩:=x;intro listed a w hc hok hS h;cases b with
   |true=>simp only[sG,Bool.and_eq_true]at hok;obtain⟨⟨⟨h1,h2⟩,h3⟩,h4⟩:=hok;obtain⟨o,v,ho,hy,h⟩:=h;have hSw:S w:=hS zm;exact EJ ho (Region.noSelect_spec hs) (λc a w=>hQ o c a v w) h3 rest.length listed a w hc h2 (by simpa using h1) hy hSw (ih _ _ _ (hc.list (by simpa using h1)) h4 (λ_=>hSw) h)
   | false=>
     simp only[sG,Bool.and_eq_true,beq_iff_eq]at hok;obtain⟨⟨h1,h2⟩,h3⟩:=hok;refine⟨λh0=>(by rw[h1]at h0;cases h0),λj hj=>?_⟩;rw[h1]at hj;obtain rfl:j=i:=by simpa using hj
     refine wpOp_mono (λa' w' h4=>⟨h4.1,ih _ _ _ (hc.list (by rw[h1];exact List.mem_singleton.2 rfl)) h3 (λtF=>?_) h4.2⟩) h;rw[Bool.or_eq_true]at h2;rcases h2 with h2|h2
     . exact h4.1 h2
     . rw[tF]at h2;cases h2
theorem bM {id:Nat}{a:Act}{w:World}(S:World->Prop)(J:Nat->Bool)(plan:List (Nat×Bool))(hm:P.follows .mixedOrders=true)(hs:Region.noSelect ops=true)
 (hl:plan.length=ops.size) (hok:sG .any ops J plan (Array.replicate ops.size false)=true)
 (hQ:∀(o:Oper) c a v w,Q (.panic c) (a.put o.dst v) w->Q (.panic c) a w) (hS:S w.drew) (h:aZ P ops Q S J plan a w.drew):(Code.region id ops true).wp P Q a w:=by
 refine wp_region_any hm (EL ops.size _ _ _ ?_ (S:=S) (J:=J));have:=EK (md:=.any) (S:=S) (J:=J) hs hQ plan (Array.replicate ops.size false) a w.drew (Closed.empty _) hok (λ_=>hS) h;rw[hl]at this;exact this
theorem OO {i:Nat}{rest:List (Nat×Bool)}{o:Oper}{v:Value}{a:Act}{w:World}(ho:ops.toList[i]?=some o)(hw:Region.wanted o (yielded ops a.tmps)=true)
 (hy:∀w',S w'->(execOp a.eval o).run P w'=.ok (.value v) w') (h:aZ P ops Q S J rest (a.put o.dst v) w):aZ P ops Q S J ((i,true)::rest) a w:=
 ⟨o,v,by rw[<-Array.getElem?_toList];exact ho,.inl ⟨hw,hy⟩,h⟩
theorem pT {i:Nat} {rest:List (Nat×Bool)} {o:Oper} {v:Value} {a:Act} {w:World} (ho:ops.toList[i]?=some o) (hw:Region.wanted o (yielded ops a.tmps)=true)
  (h:aZ P ops Q S J rest (a.put o.dst v) w) (hy:∀w',S w'->(execOp a.eval o).run P w'=.ok (.value v) w':=by(intro w' hw';go_simp;try with_reducible rfl)):aZ P ops Q S J ((i,true)::rest) a w:=OO ho hw hy h
theorem UU :(∀(a:Act) (d:Nat) (v:Value),a.put (some d) v=⟨a.tmps.setIfInBounds d v,a.defers⟩)/\(∀(a:Act) (v:Value),a.put none v=a)/\(∀(α:Type) (l:List α) (i:Nat) (a:α),l.toArray.setIfInBounds i a=(l.set i a).toArray)/\(∀(α:Type) (x:α) (l:List α) (a:α),(x::l).set 0 a=a::l)/\(∀(α:Type) (x:α) (l:List α) (i:Nat) (a:α),(x::l).set (i+1) a=x::l.set i a):=⟨λ_ _ _=>rfl,λ_ _=>rfl,λ_ l i a=>U1 l i a,λ_ _ _ _=>rfl,λ_ _ _ _ _=>rfl⟩
theorem aI {i:Nat}{rest:List (Nat×Bool)}{o:Oper}{a:Act}{w:World}(ho:ops.toList[i]?=some o)(hw:Region.wanted o (yielded ops a.tmps)=true)
 (h:∀K:Act->World->Prop,(∀a' w',(J i=true->S w')->aZ P ops Q S J rest a' w'->K a' w')->o.wp P a w K Q):aZ P ops Q S J ((i,false)::rest) a w:=by
 show wpOp P ops Q i _ a w
 rw[Array.getElem?_toList]at ho;unfold wpOp;simp only[ho,hw,if_true];exact .inl (h _ (λa' w' h1 h2=>⟨h1,h2⟩))
theorem bO {plan:List (Nat×Bool)}{a:Act}{W:World}(R:World->Prop)(hR:R W)(h:∀W',R W'->aZ P ops Q S J plan a W'):aZ P ops Q S J plan a W:=h W hR
end
theorem aH {w:World}{p a:Addr}{u v:Value}(hne:a.block≠p.block\/a.off≠p.off)(h:w.cell? a=some v):(w.setCell p u).cell? a=some v:=by rw[World.cell?_setCell_other w p a u (λe=>by subst e;rcases hne with h|h<;>exact h rfl)];exact h
section
variable {P:Program} {md:Region.Mode} {ops:Array Oper} {Q:Exit->Act->World->Prop} {S:World->Prop} {J:Nat->Bool}
def Eo (md:Region.Mode)(ops:Array Oper)(J:Nat->Bool)(i j:Nat)(p1 p2:List (Nat×Bool)):List Nat->Array Bool->Bool
 |[],listed=>Region.ready md ops listed==[i,j]&&sG md ops J p1 (listed.setIfInBounds i true)&&sG md ops J p2 (listed.setIfInBounds j true)
 |x::pre,listed=>(Region.ready md ops listed).contains x&&Region.free md ops listed x&&waits md ops J x&&Eo md ops J i j p1 p2 pre (listed.setIfInBounds x true)
def Bf (P:Program)(ops:Array Oper)(Q:Exit->Act->World->Prop)(S:World->Prop)(J:Nat->Bool)(i j:Nat)(p1 p2:List (Nat×Bool)):List Nat->Act->World->Prop
 |[],a,w=>wpOp P ops Q i (λa1 w1=>S w1/\aZ P ops Q S J p1 a1 w1) a w/\wpOp P ops Q j (λa1 w1=>S w1/\aZ P ops Q S J p2 a1 w1) a w
 |x::pre,a,w=>∃o v,ops[x]?=some o/\YieldsIf P ops S o v a/\Bf P ops Q S J i j p1 p2 pre (a.put o.dst v) w
theorem ano (hs:Region.noSelect ops=true)(hQ:∀(o:Oper) c a v w,Q (.panic c) (a.put o.dst v) w->Q (.panic c) a w)(i j:Nat)(p1 p2:List (Nat×Bool))(hl:p2.length=p1.length)(pre:List Nat):
 ∀(listed:Array Bool) (a:Act) (w:World),Closed md ops listed->Eo md ops J i j p1 p2 pre listed=true->S w->Bf P ops Q S J i j p1 p2 pre a w->sJ P md ops Q S J (p1.length+1+pre.length) listed a w:=by
 induction pre with
 | nil=>
   intro listed a w hc hok _ h;simp only[Eo,Bool.and_eq_true,beq_iff_eq]at hok;obtain⟨⟨h1,h2⟩,h3⟩:=hok;have mi:i∈Region.ready md ops listed:=by rw[h1];simp
   have mj:j∈Region.ready md ops listed:=by rw[h1];simp
   refine⟨λh0=>(by rw[h1]at h0;cases h0),λk hk=>?_⟩;rw[h1]at hk;simp only[List.mem_cons,List.not_mem_nil,or_false]at hk;rcases hk with rfl|rfl
   . exact wpOp_mono (λa1 w1 q=>⟨λ_=>q.1,EK hs hQ p1 _ _ _ (hc.list mi) h2 (λ_=>q.1) q.2⟩) h.1
   . refine wpOp_mono (λa1 w1 q=>⟨λ_=>q.1,?_⟩) h.2;have:=EK hs hQ p2 _ _ _ (hc.list mj) h3 (λ_=>q.1) q.2;rw[hl]at this;exact this
 |cons x pre ih=>intro listed a w hc hok hS h;simp only[Eo,Bool.and_eq_true]at hok;obtain⟨⟨⟨h1,h2⟩,h3⟩,h4⟩:=hok;obtain⟨o,v,ho,hy,h⟩:=h;exact EJ ho (Region.noSelect_spec hs) (λc a w=>hQ o c a v w) h3 (p1.length+1+pre.length) listed a w hc h2 (by simpa using h1) hy hS (ih _ _ _ (hc.list (by simpa using h1)) h4 hS h)
theorem Qf {id:Nat}{a:Act}{w:World}(S:World->Prop)(J:Nat->Bool)(i j:Nat)(p1 p2:List (Nat×Bool))(pre:List Nat)(hm:P.follows .mixedOrders=true)(hs:Region.noSelect ops=true)
 (hl:p1.length+1+pre.length=ops.size) (hl2:p2.length=p1.length) (hok:Eo .any ops J i j p1 p2 pre (Array.replicate ops.size false)=true)
 (hQ:∀(o:Oper) c a v w,Q (.panic c) (a.put o.dst v) w->Q (.panic c) a w) (hS:S w.drew) (h:Bf P ops Q S J i j p1 p2 pre a w.drew):(Code.region id ops true).wp P Q a w:=by
 refine wp_region_any hm (EL ops.size _ _ _ ?_ (S:=S) (J:=J));have:=ano (md:=.any) (S:=S) (J:=J) hs hQ i j p1 p2 hl2 pre (Array.replicate ops.size false) a w.drew (Closed.empty _) hok hS h;rw[hl]at this;exact this
theorem OP {i j x:Nat}{p1 p2:List (Nat×Bool)}{pre:List Nat}{o:Oper}{v:Value}{a:Act}{w:World}(ho:ops.toList[x]?=some o)(hw:Region.wanted o (yielded ops a.tmps)=true)
 (hy:∀w',S w'->(execOp a.eval o).run P w'=.ok (.value v) w') (h:Bf P ops Q S J i j p1 p2 pre (a.put o.dst v) w):Bf P ops Q S J i j p1 p2 (x::pre) a w:=
 ⟨o,v,by rw[<-Array.getElem?_toList];exact ho,.inl ⟨hw,hy⟩,h⟩
theorem OL {i j:Nat}{p1 p2:List (Nat×Bool)}{oi oj:Oper}{a:Act}{w:World}(hoi:ops.toList[i]?=some oi)(lJ:ops.toList[j]?=some oj)(lL:Region.wanted oi (yielded ops a.tmps)=true)(rz:Region.wanted oj (yielded ops a.tmps)=true)
 (h1:∀K:Act->World->Prop,(∀a' w',S w'->aZ P ops Q S J p1 a' w'->K a' w')->oi.wp P a w K Q) (h2:∀K:Act->World->Prop,(∀a' w',S w'->aZ P ops Q S J p2 a' w'->K a' w')->oj.wp P a w K Q):Bf P ops Q S J i j p1 p2 [] a w:=by
 rw[Array.getElem?_toList]at hoi lJ;refine⟨?_,?_⟩
 . unfold wpOp;simp only[hoi,lL,if_true];exact .inl (h1 _ (λa' w' q1 q2=>⟨q1,q2⟩))
 . unfold wpOp;simp only[lJ,rz,if_true];exact .inl (h2 _ (λa' w' q1 q2=>⟨q1,q2⟩))
end
inductive PT where
 |lin (p:List (Nat×Bool))
 |rd (x:Nat) (t:PT)
 |br (i j:Nat) (t1 t2:PT)
 |tr (i j k:Nat) (t1 t2 t3:PT)
def PT.size :PT->Nat
 | .lin p=>p.length
 | .rd _ t=>t.size+1
 | .br _ _ t1 _=>t1.size+1
 | .tr _ _ _ t1 _ _=>t1.size+1
section
variable {P:Program} {md:Region.Mode} {ops:Array Oper} {Q:Exit->Act->World->Prop} {S:World->Prop} {J:Nat->Bool}
def rD (md:Region.Mode)(ops:Array Oper)(J:Nat->Bool):PT->Array Bool->Bool
 | .lin p,listed=>sG md ops J p listed
 | .rd x t,listed=>(Region.ready md ops listed).contains x&&Region.free md ops listed x&&waits md ops J x&&rD md ops J t (listed.setIfInBounds x true)
 | .br i j t1 t2,listed=>Region.ready md ops listed==[i,j]&&t1.size==t2.size&&J i&&J j&&rD md ops J t1 (listed.setIfInBounds i true)&&rD md ops J t2 (listed.setIfInBounds j true)
 | .tr i j k t1 t2 t3,listed=>Region.ready md ops listed==[i,j,k]&&t1.size==t2.size&&t1.size==t3.size&&rD md ops J t1 (listed.setIfInBounds i true)&&rD md ops J t2 (listed.setIfInBounds j true)&&rD md ops J t3 (listed.setIfInBounds k true)
def lW (P:Program)(ops:Array Oper)(Q:Exit->Act->World->Prop)(S:World->Prop)(J:Nat->Bool):PT->Act->World->Prop
 | .lin p,a,w=>aZ P ops Q S J p a w
 | .rd x t,a,w=>∃o v,ops[x]?=some o/\YieldsIf P ops S o v a/\lW P ops Q S J t (a.put o.dst v) w
 | .br i j t1 t2,a,w=>wpOp P ops Q i (λa1 w1=>S w1/\lW P ops Q S J t1 a1 w1) a w/\wpOp P ops Q j (λa1 w1=>S w1/\lW P ops Q S J t2 a1 w1) a w
 | .tr i j k t1 t2 t3,a,w=>wpOp P ops Q i (λa1 w1=>S w1/\lW P ops Q S J t1 a1 w1) a w/\wpOp P ops Q j (λa1 w1=>S w1/\lW P ops Q S J t2 a1 w1) a w/\wpOp P ops Q k (λa1 w1=>S w1/\lW P ops Q S J t3 a1 w1) a w
theorem anq (hs:Region.noSelect ops=true)(hQ:∀(o:Oper) c a v w,Q (.panic c) (a.put o.dst v) w->Q (.panic c) a w)(t:PT):
 ∀(listed:Array Bool) (a:Act) (w:World),Closed md ops listed->rD md ops J t listed=true->S w->lW P ops Q S J t a w->sJ P md ops Q S J t.size listed a w:=by
 induction t with
 |lin p=>intro listed a w hc hok hS h;exact EK hs hQ p _ _ _ hc hok (λ_=>hS) h
 | br i j t1 t2 ih1 ih2=>
   intro listed a w hc hok _ h;simp only[rD,Bool.and_eq_true,beq_iff_eq]at hok;obtain⟨⟨⟨⟨⟨h1,hsz⟩,_⟩,_⟩,h2⟩,h3⟩:=hok;have mi:i∈Region.ready md ops listed:=by rw[h1];simp
   have mj:j∈Region.ready md ops listed:=by rw[h1];simp
   refine⟨λh0=>(by rw[h1]at h0;cases h0),λk hk=>?_⟩;rw[h1]at hk;simp only[List.mem_cons,List.not_mem_nil,or_false]at hk;rcases hk with rfl|rfl
   . exact wpOp_mono (λa1 w1 q=>⟨λ_=>q.1,ih1 _ _ _ (hc.list mi) h2 q.1 q.2⟩) h.1
   . refine wpOp_mono (λa1 w1 q=>⟨λ_=>q.1,?_⟩) h.2;have:=ih2 _ _ _ (hc.list mj) h3 q.1 q.2;rw[<-hsz]at this;exact this
 | tr i j k t1 t2 t3 ih1 ih2 ih3=>
   intro listed a w hc hok _ h;simp only[rD,Bool.and_eq_true,beq_iff_eq]at hok;obtain⟨⟨⟨⟨⟨h1,hs2⟩,hs3⟩,h2⟩,h3⟩,h4⟩:=hok;have mi:i∈Region.ready md ops listed:=by rw[h1];simp
   have mj:j∈Region.ready md ops listed:=by rw[h1];simp
   have mk:k∈Region.ready md ops listed:=by rw[h1];simp
   refine⟨λh0=>(by rw[h1]at h0;cases h0),λl hl=>?_⟩;rw[h1]at hl;simp only[List.mem_cons,List.not_mem_nil,or_false]at hl;rcases hl with rfl|rfl|rfl
   . exact wpOp_mono (λa1 w1 q=>⟨λ_=>q.1,ih1 _ _ _ (hc.list mi) h2 q.1 q.2⟩) h.1
   . refine wpOp_mono (λa1 w1 q=>⟨λ_=>q.1,?_⟩) h.2.1;have:=ih2 _ _ _ (hc.list mj) h3 q.1 q.2;rw[<-hs2]at this;exact this
   . refine wpOp_mono (λa1 w1 q=>⟨λ_=>q.1,?_⟩) h.2.2;have:=ih3 _ _ _ (hc.list mk) h4 q.1 q.2;rw[<-hs3]at this;exact this
 |rd x t ih=>intro listed a w hc hok hS h;simp only[rD,Bool.and_eq_true]at hok;obtain⟨⟨⟨h1,h2⟩,h3⟩,h4⟩:=hok;obtain⟨o,v,ho,hy,h⟩:=h;exact EJ ho (Region.noSelect_spec hs) (λc a w=>hQ o c a v w) h3 t.size listed a w hc h2 (by simpa using h1) hy hS (ih _ _ _ (hc.list (by simpa using h1)) h4 hS h)
theorem EM {id:Nat}{a:Act}{w:World}(S:World->Prop)(J:Nat->Bool)(t:PT)(hm:P.follows .mixedOrders=true)(hs:Region.noSelect ops=true)
 (hl:t.size=ops.size) (hok:rD .any ops J t (Array.replicate ops.size false)=true)
 (hQ:∀(o:Oper) c a v w,Q (.panic c) (a.put o.dst v) w->Q (.panic c) a w) (hS:S w.drew) (h:lW P ops Q S J t a w.drew):(Code.region id ops true).wp P Q a w:=by
 refine wp_region_any hm (EL ops.size _ _ _ ?_ (S:=S) (J:=J));have:=anq (md:=.any) (S:=S) (J:=J) hs hQ t (Array.replicate ops.size false) a w.drew (Closed.empty _) hok hS h;rw[hl]at this;exact this
theorem Ep {x:Nat}{t:PT}{o:Oper}{v:Value}{a:Act}{w:World}(ho:ops.toList[x]?=some o)(hw:Region.wanted o (yielded ops a.tmps)=true)
 (hy:∀w',S w'->(execOp a.eval o).run P w'=.ok (.value v) w') (h:lW P ops Q S J t (a.put o.dst v) w):lW P ops Q S J (.rd x t) a w:=
 ⟨o,v,by rw[<-Array.getElem?_toList];exact ho,.inl ⟨hw,hy⟩,h⟩
theorem uh {i j:Nat}{t1 t2:PT}{oi oj:Oper}{a:Act}{w:World}(hJi:J i=true)(hJj:J j=true)(hoi:ops.toList[i]?=some oi)(lJ:ops.toList[j]?=some oj)(lL:Region.wanted oi (yielded ops a.tmps)=true)(rz:Region.wanted oj (yielded ops a.tmps)=true)
 (h1:∀K:Act->World->Prop,(∀a' w',(J i=true->S w')->lW P ops Q S J t1 a' w'->K a' w')->oi.wp P a w K Q) (h2:∀K:Act->World->Prop,(∀a' w',(J j=true->S w')->lW P ops Q S J t2 a' w'->K a' w')->oj.wp P a w K Q):lW P ops Q S J (.br i j t1 t2) a w:=by
 rw[Array.getElem?_toList]at hoi lJ;refine⟨?_,?_⟩
 . unfold wpOp;simp only[hoi,lL,if_true];exact .inl (h1 _ (λa' w' q1 q2=>⟨q1 hJi,q2⟩))
 . unfold wpOp;simp only[lJ,rz,if_true];exact .inl (h2 _ (λa' w' q1 q2=>⟨q1 hJj,q2⟩))
theorem IU {t:PT}{a:Act}{W:World}(R:World->Prop)(hR:R W)(h:∀W',R W'->lW P ops Q S J t a W'):lW P ops Q S J t a W:=h W hR
theorem nK {p:List (Nat×Bool)}{a:Act}{w:World}(h:aZ P ops Q S J p a w):lW P ops Q S J (.lin p) a w:=h
end
def jo (cs:List (Addr×Value))(w:World):Prop:=∀p∈cs,w.cell? p.1=some p.2
theorem jo.below {cs:List (Addr×Value)}{w w':World}(h:jo cs w)(hb:Bw w w'):jo cs w':=λp hp=>cell_later hb (h p hp)
theorem jo.hd {p:Addr×Value}{cs:List (Addr×Value)}{w:World}(h:jo (p::cs) w):w.cell? p.1=some p.2:=h p zm
theorem jo.tl {p:Addr×Value}{cs:List (Addr×Value)}{w:World}(h:jo (p::cs) w):jo cs w:=λq hq=>h q (by simp[hq])
theorem jo.alloc {cs:List (Addr×Value)}{w:World}(h:jo cs w)(o:Obj):jo cs (w.alloc o):=h.below zl
theorem jo.drew {cs:List (Addr×Value)}{w:World}(h:jo cs w):jo cs w.drew:=h
theorem bu {P:Program}{ops:Array Oper}{Q:Exit->Act->World->Prop}{S:World->Prop}{J:Nat->Bool}{i:Nat}{rest:List (Nat×Bool)}{o:Oper}{a:Act}{w:World}(ho:ops.toList[i]?=some o)(hw:Region.wanted o (yielded ops a.tmps)=false)
 (h:aZ P ops Q S J rest (a.put o.dst undef) w):aZ P ops Q S J ((i,true)::rest) a w:=
 ⟨o,undef,by rw[<-Array.getElem?_toList];exact ho,.inr ⟨hw,rfl⟩,h⟩
theorem OM {P:Program}{ops:Array Oper}{Q:Exit->Act->World->Prop}{S:World->Prop}{J:Nat->Bool}{i:Nat}{rest:List (Nat×Bool)}{o:Oper}{a:Act}{w:World}(ho:ops.toList[i]?=some o)(hw:Region.wanted o (yielded ops a.tmps)=false)
 (hS:J i=true->S w) (h:aZ P ops Q S J rest (a.put o.dst undef) w):aZ P ops Q S J ((i,false)::rest) a w:=by
 show wpOp P ops Q i _ a w
 rw[Array.getElem?_toList]at ho;unfold wpOp;simp only[ho,hw];exact⟨hS,h⟩
def gN (A w:World):Prop:=Bw A w
theorem gN.below {A w w':World}(h:gN A w)(hb:Bw w w'):gN A w':=aK h hb
theorem gN.alloc {A w:World}(h:gN A w)(o:Obj):gN A (w.alloc o):=h.below zl
theorem gN.drew {A w:World}(h:gN A w):gN A w.drew:=Below.drew h
theorem Lr {a b:Nat}(h:b<a):dm a b=1:=by unfold dm;rw[if_neg zo,if_pos h]
theorem Ls {a b:Nat}(h:a<=b):dm a b<=0:=by unfold dm;split;decide;rw[if_neg zo];decide
theorem adr (n:Nat):WW^(n+1)=WW^n*WW:=Nat.pow_succ _ _
theorem yq {By q n:Nat}(hB:By<WW^n)(hq:q<WW):By*q<WW^(n+1):=by
 rw[adr];rcases Nat.eq_zero_or_pos q with h|h
 . subst h;rw[Nat.mul_zero];exact Nat.mul_pos (dY n) jr
 . exact Nat.mul_lt_mul'' hB hq
theorem Xq (a:Option Addr)(L gP b2 o2 n cap2 By pb po kU P q:Nat)(w:World)(hn:n<=1099511627774)(xL:n<=cap2)(hpc:n+1<=kU)(hy:dR w b2 o2 n By)(hB:By<WW^n)(TU:0<By)
 (hp:dR w pb po (n+1) P) (hP:P<WW^(n+1)) (hq:P/By<q) (hqW:q<WW):
 Calls Tryz.prog 189 #[.agg #[.slice a L gP,.slice (some ⟨b2,o2,none⟩) n cap2],.slice (some ⟨pb,po,none⟩) (n+1) kU,.int .u64 (q:Int)] w λe w'=>∃mb,
  e=.returned (.tuple #[.int .u64 ((P/By:Nat):Int),.slice (some ⟨mb,0,none⟩) (n+1) (n+1)])/\(ak w' mb 142 (bD (n+1) (dg (By* (P/By))))/\w.heap.size<=mb)/\Bw w w':=by
 obtain⟨Hy,HB,Qq,Hp,HP⟩:=fC hy hB TU hp hP;obtain⟨D,hD⟩:=aB (P/By);have HD:=ah hD;rw[hD]at hq⊢;rw[jq]at hqW;have XH:pb<w.heap.size:=World.block_lt_of_cell? w _ (hp 0 zo);have iO:0<n->b2<w.heap.size:=λh=>World.block_lt_of_cell? w _ (hy 0 h);have hn0:0<n:=by
  rcases Nat.eq_zero_or_pos n with h|h
  . subst h;simp at hB;omega
  . exact h
 obtain⟨Lpb,Lb2⟩:=aM XH (iO hn0);clear hy hB TU hp hP hD XH iO;have hmk:=yn ((n:Int)+1) (n+1) zo zo;obtain⟨W,dw,Hb,Hx⟩:=iP w 198 [.slice a L gP,.slice (some ⟨b2,o2,none⟩) n cap2];obtain⟨x0,x1⟩:=Hx.out.c2;go_enter Tryz.func189,Tryz.ntmps189;go_wp2_with fail;go_loopw[2,8] (λqv _ wr=>∃k:Nat,D<k/\k<=q/\qv=.int .u64 (k:Int)/\ak wr w.heap.size 198 [.slice a L gP,.slice (some ⟨b2,o2,none⟩) n cap2]/\Bw w wr) (λqv _ _=>(intOf qv).toNat);case atStart=>exact⟨q,hq,Nat.le_refl _,rfl,Hx.out,Hb.out⟩
 case round=>
  clear x0 x1 Hx Hb;obtain⟨k,hk1,hk2,rfl,px,Yv⟩:=hrel;obtain⟨Hx,Hb⟩:=aM px Yv;clear px Yv;obtain⟨m,rfl⟩:∃m,k=m+1:=⟨k-1,by omega⟩;have hm:IntKind.u64.wrap (((m+1:Nat):Int)-1)=(m:Int):=by rw[IntKind.wrap_u64];omega
  obtain⟨x0,x1⟩:=Hx.out.c2;have VX:m<WW:=by rw[jq];omega
  have Rz:=ah VX;clear VX;have lx:=Hx.out.lt;have sz:=Hb.out.size;obtain⟨W2,hW2⟩:=aB (wr.alloc (.cells (bD (n+1) λ_=>0).toArray 142));have hb2:Bw wr W2:=by rw[<-hW2];exact zl
  have fw:Hid (ak W2 wr.heap.size 142 (bD (n+1) λ_=>0)):=by rw[<-hW2];exact ak.new _ _ _
  replace Hx:=ah (Hx.out.below hb2);have gu:=ah (aK Hb.out hb2);have Zb:W2.heap.size=wr.heap.size+1:=by rw[<-hW2];simp
  have an1:=ah Zb;clear Zb hb2;obtain⟨y0,y1⟩:=Hx.out.c2;go_wp2_with fail;refine(ID wr.heap.size (n+1) 0 (n+1) (n+1) (λ_=>0) 0 b2 o2 n cap2 By m W2 zo zo fw.out zo (λj _=>by unfold dg;rw[Nat.zero_div];rfl) (Hy.out.below gu.out) HB.out (by have:=Lb2.out;omega) Rz.out).mono ?_;rintro e w3 ⟨rfl,qB,qg⟩
  have eB:bD (n+1) (fU (λ_=>0) 0 (n+1) (dg (0+By*m)))=bD (n+1) (dg (By*m)):=jQ (λj hj=>by
   have:=El (λ_=>0) 0 (n+1) (dg (0+By*m)) j hj
   simpa only[Nat.zero_add]using this)
  rw[eB]at qB;obtain⟨jR,Rk⟩:=aM qB qg;have qQ:=yq HB.out Rz.out;have vw:=iY qQ;obtain⟨Bl,uK⟩:=aM qQ (Hx.out.grown qg (λh=>by have:=Option.some.inj h;omega));have oW:Hid (dR w3 pb po (n+1) P):=(Hp.out.below gu.out).grown qg (λh=>by have:=Option.some.inj h;have:=Lpb.out;omega);have ey:=ah (gu.out.grown qg (by have:=gu.out.size;omega) (λj e=>by have:=Option.some.inj e;omega));clear qB qg eB qQ x0 x1 y0 y1;obtain⟨x0,x1⟩:=uK.out.c2;go_wp2_with fail;refine(kG wr.heap.size 0 (n+1) (n+1) (By*m) w3 zo (Nat.le_refl _) (jR.out.lim _ (Nat.le_refl _)) Bl.out).mono ?_;rintro e w4 ⟨rfl,rfl⟩;go_wp2_with fail;refine(yi wr.heap.size 0 (ln (By*m)) (n+1) (By*m) pb po (n+1) kU P w3 zo vw (jR.out.lim _ vw) (eO _) zo hpc oW.out HP.out).mono ?_;rintro e w5 ⟨rfl,dA⟩;obtain⟨fB,zw,ma⟩:=cX dA (uK.out.below dA) (jR.out.below dA);clear dA x0 x1;obtain⟨x0,x1⟩:=zw.out.c2;have mI:=Nat.div_add_mod P By;have vA:=Nat.mod_lt P Qq.out;rw[HD.out]at mI;by_cases hle:By*m<=P
  . have hmD:D=m:=by
     have h1:m<=D:=by rw[<-HD.out];exact(Nat.le_div_iff_mul_le Qq.out).2 (by rw[Nat.mul_comm];exact hle)
     omega
    subst hmD;have lG:=Ls hle;clear mI vA hle;generalize dm (By*D) P=c at*;go_wp2;refine bodyPost_ret (v:=.tuple #[.int .u64 (D:Int),.slice (some ⟨wr.heap.size,0,none⟩) (n+1) (n+1)]) (by simp[results,Tryz.results189,go_sem]) rfl ⟨wr.heap.size,rfl,⟨ma.out,sz⟩,aK ey.out fB.out⟩
  . have hlt:D<m:=by
     rcases Nat.lt_or_ge D m with h|h
     . exact h
     . exact absurd (Nat.le_trans (Nat.mul_le_mul_left By h) zo) hle
    have lG:=Lr (a:=By*m) (b:=P) zo;clear mI vA;rw[lG];go_wp2;go_roundw;case rel=>exact⟨m,hlt,by omega,by go_num,zw.out,aK ey.out fB.out⟩
    case measure=>simp[intOf]
theorem _root_.Go.RowKit.Below.thenGrown {w a c:World}{b:Nat}(h:Bw w a)(k:a.grownBy c (some b)):w.grownBy c (some b):=
 ⟨k.os.trans h.os,k.tape.trans h.tape,k.output.trans h.output,Nat.le_trans h.size k.size,λi hi hn=>(k.block i (Nat.lt_of_lt_of_le hi h.size) hn).trans (h.block i hi)⟩
def Wn (w:World)(b o:Nat)(cs:List Value):Prop:=∀j (h:j<cs.length),w.cell? ⟨b,o+j,none⟩=some cs[j]
theorem Wn.cell {w:World}{b o:Nat}{cs:List Value}(h:Wn w b o cs)(j:Nat)(hj:j<cs.length):w.cell? ⟨b,o+j,none⟩=some cs[j]:=h j hj
theorem Wn.below {w w':World}{b o:Nat}{cs:List Value}(h:Wn w b o cs)(hb:Bw w w'):Wn w' b o cs:=λj hj=>cell_later hb (h j hj)
theorem afJ (h lo y:Nat)(w:World)(hy1:9223372036854775808<=y)(hy:y<WW)(hh:h<y)(hl:lo<WW):
 Calls Tryz.prog 188 #[.int .u64 (h:Int),.int .u64 (lo:Int),.int .u64 (y:Int)] w λe w'=>(∃r,e=.returned (.tuple #[.int .u64 (((h*WW+lo)/y:Nat):Int),.int .u64 r]))/\Bw w w':=by
 rcases Nat.eq_zero_or_pos h with h0|h0
 . subst h0;refine(afL lo y w zo hy hl).mono ?_;rintro e w' ⟨r,rfl,hb⟩;refine⟨⟨r,?_⟩,hb⟩;rw[Nat.zero_mul,Nat.zero_add]
 . refine(afK h lo y w hy1 hy hh hl h0).mono ?_;rintro e w' ⟨r,he,hb⟩;exact⟨⟨r,he⟩,hb⟩
theorem take_at {R By at' n:Nat}(hR:R<WW^(at'+n+1))(j:Nat):
 fU (dg R) at' (n+1) (dg (R/WW^at'-By* (R/WW^at'/By))) j=dg (R-By* (R/WW^at'/By) *WW^at') j:=by
 obtain⟨P,hP⟩:=aB (R/WW^at');obtain⟨lo,hlo⟩:=aB (R%WW^at');obtain⟨S,hS⟩:=aB (By* (P/By));have hl:lo<WW^at':=by rw[<-hlo];exact Nat.mod_lt _ (dY _)
 have e:=Nat.div_add_mod R (WW^at');rw[hP,hlo]at e;have hSP:S<=P:=by rw[<-hS];exact Nat.mul_div_le _ _
 have hPn:P<WW^(n+1):=by rw[<-hP];refine Nat.div_lt_of_lt_mul ?_;rw[<-Nat.pow_add];exact hR
 rw[hP,hS];have e1:R=P*WW^at'+lo:=by rw[<-e,Nat.mul_comm]
 have e2:R-S*WW^at'=(P-S) *WW^at'+lo:=by have:S*WW^at'<=P*WW^at':=Nat.mul_le_mul_right _ hSP;rw[e1,Nat.sub_mul];omega
 rw[e2,Tj _ _ _ _ hl];unfold fU;by_cases h1:j<at'
 . rw[if_neg zo,if_pos h1,e1,Tj _ _ _ _ hl,if_pos h1]
 . rw[if_neg h1];by_cases h2:j<at'+(n+1)
   . rw[if_pos zo]
   . rw[if_neg zo,rO (k:=at'+n+1) hR zo,rO (k:=n+1) (Nat.lt_of_le_of_lt (Nat.sub_le _ _) hPn) zo]
theorem afI (b L gP R b2 o2 n cap2 By at':Nat)(w:World)(hL:L<=1099511627775)(hLc:L<=gP)(hn:0<n)(xL:n<=cap2)(hB:ak w b 142 (bD L (dg R)))(hy:dR w b2 o2 n By)(Gu:By<WW^n)(htop:9223372036854775808<=dg By (n-1))
 (hR:R<By*WW^(at'+1)) (hat:at'+n+1<=L) (hne:b2≠b):
 Calls Tryz.prog 178 #[.agg #[.slice (some ⟨b,0,none⟩) L gP,.slice (some ⟨b2,o2,none⟩) n cap2],.int .i64 (at':Int)] w λe w'=>
  e=.returned (.int .u64 ((R/WW^at'/By:Nat):Int))/\ak w' b 142 (bD L (dg (R-By* (R/WW^at'/By) *WW^at')))/\w.grownBy w' (some b):=by
 have TV:0<By:=by
  rcases Nat.eq_zero_or_pos By with h|h
  . subst h;unfold dg at htop;simp at htop
  . exact h
 have Mo:R<WW^(at'+n+1):=by refine Nat.lt_of_lt_of_le hR ?_;rw[show WW^(at'+n+1)=WW^n*WW^(at'+1)by rw[<-Nat.pow_add];congr 1;omega];exact Nat.mul_le_mul_right _ (Nat.le_of_lt Gu)
 have htake:=λj=>take_at (R:=R) (By:=By) (at':=at') (n:=n) Mo j;obtain⟨P,hP⟩:=aB (R/WW^at');have Ut:P<By*WW:=by rw[<-hP];refine Nat.div_lt_of_lt_mul ?_;rw[<-Nat.mul_assoc,Nat.mul_comm _ By,Nat.mul_assoc,Nat.mul_comm (WW^at'),<-Nat.pow_succ'];exact hR
 have Uu:P<WW^(n+1):=by rw[<-hP];refine Nat.div_lt_of_lt_mul ?_;rw[<-Nat.pow_add];exact Mo
 have CO:∀j,dg P j=dg R (at'+j):=λj=>by rw[<-hP];exact Gg R at' j
 obtain⟨G,hG⟩:=aB (if dg P n<dg By (n-1)then(dg P n*WW+dg P (n-1))/dg By (n-1)else WW-1);have hge:=agG (P:=P) (by':=By) hn Ut zo Gu;rw[hG]at hge;have ME:=ju By (n-1);have Mr:=ju P (n-1);obtain⟨top,ND⟩:=aB (dg P n);obtain⟨T0,hT0⟩:=aB (dg P (n-1));obtain⟨b1,hb1⟩:=aB (dg By (n-1));rw[ND,hT0,hb1]at hG;rw[hb1]at htop ME;rw[hT0]at Mr;have hlb:=hB.lt;have ahD:b2<w.heap.size:=World.block_lt_of_cell? w _ (hy 0 hn);have Lu:w.cell? ⟨b,at'+n,none⟩=some (.int .u64 (top:Int)):=by rw[hB.cell,gp _ _ _ zo,<-ND,CO]
 have Ll:w.cell? ⟨b,at'+n-1,none⟩=some (.int .u64 (T0:Int)):=by rw[hB.cell,gp _ _ _ zo,<-hT0,CO];congr 4;omega
 have Lm:w.cell? ⟨b2,o2+(n-1),none⟩=some (.int .u64 (b1:Int)):=by rw[<-hb1];exact hy _ zo
 have DC:dR w b at' (n+1) P:=λj hj=>by rw[hB.cell,gp _ _ _ zo,CO]
 have i1:=DX L gP (at'+n) ((at':Int)+(n:Int)) (rfl:(some ⟨b,0,none⟩:Option Addr)=_) zo zo;have i2:=DX L gP (at'+n-1) ((at':Int)+(n:Int)-1) (rfl:(some ⟨b,0,none⟩:Option Addr)=_) zo zo;have i3:=DX n cap2 (n-1) ((n:Int)-1) (rfl:(some ⟨b2,o2,none⟩:Option Addr)=_) zo zo;rw[Nat.mul_one,Nat.zero_add]at i1 i2;rw[Nat.mul_one]at i3;have hsl:at'+n+1-at'=n+1:=by omega
 have hmk:=yn ((n:Int)+1) (n+1) zo zo;obtain⟨QS,Hy,rH,ER,uu,HP,Rn,Qw,FE,FA,Hne,EU⟩:=gh hB hy Gu TV Uu hP hge hG htake DC hne CO;obtain⟨Ch,aa4,QI⟩:=cX htop ME Mr;obtain⟨D,hD⟩:=aB (P/By);have HD:=ah hD;rw[hP,hD];rw[hD]at hge;have JN:Hid (Wn w b (at'+n) [.int .u64 (top:Int)]):=λj hj=>by
  obtain rfl:j=0:=by simp at hj;omega
  exact Lu
 have wK:Hid (Wn w b (at'+n-1) [.int .u64 (T0:Int)]):=λj hj=>by
  obtain rfl:j=0:=by simp at hj;omega
  exact Ll
 have wL:Hid (Wn w b2 (o2+(n-1)) [.int .u64 (b1:Int)]):=λj hj=>by
  obtain rfl:j=0:=by simp at hj;omega
  exact Lm
 clear hB hy Gu TV Uu hP hge hG htake DC hne htop ME Mr hD Ut CO Mo hR ND hT0 hb1 Lu Ll Lm;obtain⟨W,dw,Hb,Hx⟩:=iP w 198 [.slice (some ⟨b,0,none⟩) L gP,.slice (some ⟨b2,o2,none⟩) n cap2];obtain⟨x0,x1⟩:=Hx.out.c2;replace JN:=ah (JN.out.below Hb.out);replace wK:=ah (wK.out.below Hb.out);replace wL:=ah (wL.out.below Hb.out);have Lu:W.cell? ⟨b,at'+n,none⟩=some (.int .u64 (top:Int)):=JN.out.cell 0 zm;have Ll:W.cell? ⟨b,at'+n-1,none⟩=some (.int .u64 (T0:Int)):=wK.out.cell 0 zm;have Lm:W.cell? ⟨b2,o2+(n-1),none⟩=some (.int .u64 (b1:Int)):=wL.out.cell 0 zm;go_enter Tryz.func178,Tryz.ntmps178;by_cases hlt:top<b1
 . have bj:(top:Int)<(b1:Int):=by omega
   have Ac:=λW=>afJ top T0 b1 W Ch.out aa4.out hlt QI.out;have uT:=Qw.out;rw[if_pos hlt]at uT;rw[uT]at Ac;have nO:Hid (G<WW):=by
    show _<_
    rw[<-uT];refine Nat.div_lt_of_lt_mul ?_;have h1:=QI.out;have h2:(top+1) *WW<=b1*WW:=Nat.mul_le_mul_right _ hlt;rw[Nat.add_mul,Nat.one_mul]at h2;omega
   have yY:=ah Ac;clear Ac uT;go_wp2_with fail;have k1:IntKind.i64.wrap ((at':Int)+(n:Int))=(at':Int)+(n:Int):=by rw[IntKind.wrap_i64];omega
   have k2:IntKind.i64.wrap ((at':Int)+(n:Int)-1)=(at':Int)+(n:Int)-1:=by rw[IntKind.wrap_i64];omega
   have k3:IntKind.i64.wrap ((n:Int)-1)=(n:Int)-1:=by rw[IntKind.wrap_i64];omega
   obtain⟨x0,x1⟩:=Hx.out.c2;have Gb:W.cell? ⟨b,at'+n-1,none⟩=some (.int .u64 (T0:Int)):=wK.out.cell 0 zm;have Gc:W.cell? ⟨b2,o2+(n-1),none⟩=some (.int .u64 (b1:Int)):=wL.out.cell 0 zm;refine bM (λw'=>w'.cell? ⟨w.heap.size,0,none⟩=some (.slice (some ⟨b,0,none⟩) L gP)/\w'.cell? ⟨w.heap.size,1,none⟩=some (.slice (some ⟨b2,o2,none⟩) n cap2)/\w'.cell? ⟨b,at'+n-1,none⟩=some (.int .u64 (T0:Int))/\w'.cell? ⟨b2,o2+(n-1),none⟩=some (.int .u64 (b1:Int))) (λi=>Nat.blt i 100000) [(0,true),(1,true),(2,true),(3,true),(4,true),(5,true),(6,true),(7,true),(8,true),(9,true),(10,true),(11,true),(12,true),(13,true),(14,true),(15,false),(16,true),(17,true),(18,true),(19,true)] zk zk rfl zk zc ⟨x0,x1,Gb,Gc⟩ ?_;iterate 15 (refine pT rfl rfl ?_ (by intro w' ⟨q0,q1,q2,q3⟩;go_simp;try with_reducible rfl);try simp only[UU])
   refine aI rfl rfl (λK hK=>?_);go_simp;with_reducible refine(yY.out _).mono ?_
   rintro e w1 ⟨⟨r,rfl⟩,hq⟩;have ae:Bw W w1:=by first|exact hq|exact aV hq
   clear x0 x1 Gb Gc;replace Hx:=kB Hx ae;replace wK:=ah (wK.out.below ae);replace wL:=ah (wL.out.below ae);obtain⟨x0,x1⟩:=Hx.out.c2;have Gb:w1.cell? ⟨b,at'+n-1,none⟩=some (.int .u64 (T0:Int)):=wK.out.cell 0 zm;have Gc:w1.cell? ⟨b2,o2+(n-1),none⟩=some (.int .u64 (b1:Int)):=wL.out.cell 0 zm;replace Hb:=az Hb ae;clear ae;refine hK _ _ (λ_=>⟨x0,x1,Gb,Gc⟩) ?_;clear hK K;try simp only[UU]
   iterate 4 (refine pT rfl rfl ?_;try simp only[UU])
   simp only[aZ];have PO:=Hb.out.size;have lx:=Hx.out.lt;obtain⟨W2,hW2⟩:=aB (w1.alloc (.cells (bD (n+1) λ_=>0).toArray 142));have hb2:Bw w1 W2:=by rw[<-hW2];exact zl
   have fw:Hid (ak W2 w1.heap.size 142 (bD (n+1) λ_=>0)):=by rw[<-hW2];exact ak.new _ _ _
   obtain⟨gu,qC⟩:=aM (aK Hb.out hb2) (Hx.out.below hb2);clear hb2;obtain⟨y0,y1⟩:=qC.out.c2;go_wp2_with fail;refine(ID w1.heap.size (n+1) 0 (n+1) (n+1) (λ_=>0) 0 b2 o2 n cap2 By G W2 zo zo fw.out zo (λj _=>by unfold dg;rw[Nat.zero_div];rfl) (Hy.out.below gu.out) rH.out zo nO.out).mono ?_;rintro e w3 ⟨rfl,qB,qg⟩
   have eB:bD (n+1) (fU (λ_=>0) 0 (n+1) (dg (0+By*G)))=bD (n+1) (dg (By*G)):=jQ (λj hj=>by
    have:=El (λ_=>0) 0 (n+1) (dg (0+By*G)) j hj
    simpa only[Nat.zero_add]using this)
   rw[eB]at qB;have jR:=ah qB;have qQ:=yq rH.out nO.out;have vw:=iY qQ;obtain⟨Bl,uK⟩:=aM qQ (qC.out.grown qg (λh=>by have:=Option.some.inj h;omega));have oW:Hid (dR w3 b at' (n+1) P):=(FA.out.below gu.out).grown qg (λh=>by have:=Option.some.inj h;omega);obtain⟨JJ,ey⟩:=aM ((QS.out.below gu.out).grown qg (λh=>by have:=Option.some.inj h;omega)) (gu.out.grown qg (by have:=gu.out.size;omega) (λj e=>by have:=Option.some.inj e;omega));clear qB qg eB qQ x0 x1 y0 y1;obtain⟨x0,x1⟩:=uK.out.c2;go_wp2_with fail;refine(kG w1.heap.size 0 (n+1) (n+1) (By*G) w3 zo (Nat.le_refl _) (jR.out.lim _ (Nat.le_refl _)) Bl.out).mono ?_;rintro e w4 ⟨rfl,rfl⟩;go_wp2_with fail;refine(yi w1.heap.size 0 (ln (By*G)) (n+1) (By*G) b at' (n+1) (gP-at') P w3 zo vw (jR.out.lim _ vw) (eO _) zo zo oW.out uu.out).mono ?_;rintro e w5 ⟨rfl,dA⟩;obtain⟨fB,zw,sK,ml⟩:=dS dA (uK.out.below dA) (jR.out.below dA) (JJ.out.below dA);have nM:=ah (aK ey.out fB.out);clear dA x0 x1;obtain⟨x0,x1⟩:=zw.out.c2;by_cases hle:By*G<=P
   . have CJ:D=G:=by
      have h1:G<=D:=by rw[<-HD.out];exact(Nat.le_div_iff_mul_le ER.out).2 (by rw[Nat.mul_comm];exact hle)
      have h2:=Rn.out;rw[HD.out]at h2;omega
     have wB:=ah CJ;have lG:=Ls hle;have Ke:=ah hle;clear CJ hle;obtain⟨c,hc⟩:=aB (dm (By*G) P);rw[hc]at lG;rw[hc];clear hc;have ahj:¬0<c:=by omega
     go_wp2_with fail;refine(Eb b L at' (n+1) (gP-at') (dg R) P w1.heap.size 0 (n+1) (n+1) (By*G) w5 zo zo ml.out zo (λj _=>(EU.out j).symm) (sK.out.lim _ (Nat.le_refl _)) (yq rH.out (by first|exact nO.out|exact Bg.out)) ZS Ke.out uu.out).mono ?_;rintro e w6 ⟨rfl,mN,rE⟩
     have qG:bD L (fU (dg R) at' (n+1) (dg (P-By*G)))=bD L (dg (R-By*G*WW^at')):=jQ (λj _=>by
      have h:=FE.out j;rw[HP.out,HD.out,wB.out]at h
      exact h)
     rw[qG]at mN;obtain⟨mU,sW⟩:=aM mN rE;clear mN rE qG;go_wp2;refine bodyPost_ret (v:=.int .u64 (D:Int)) (by have hh:=wB.out;simp[results,Tryz.results178,go_sem,hh]) rfl ⟨rfl,by rw[wB.out];exact mU.out,Below.thenGrown nM.out sW.out⟩
   . have lG:=Lr (a:=By*G) (b:=P) zo;have hDl:P/By<G:=by
      rcases Nat.lt_or_ge (P/By) G with h|h
      . exact h
      . exact absurd (Nat.le_trans (Nat.mul_le_mul_left By h) (Nat.mul_div_le _ _)) hle
     have Bh:=ah hDl;have Bg:Hid (D<WW):=by have h1:=nO.out;have h2:=Bh.out;rw[HD.out]at h2;exact Nat.lt_trans h2 h1
     clear hDl hle;rw[lG];clear lG;go_wp2_with fail;refine(Xq (some ⟨b,0,none⟩) L gP b2 o2 n cap2 By b at' (gP-at') P G w5 zo xL zo (Hy.out.below nM.out) rH.out ER.out (oW.out.below fB.out) uu.out Bh.out nO.out).mono ?_;rintro e w7 ⟨mb,rfl,⟨qM,lmb⟩,qb⟩;have Jc:=nM.out.size;replace sK:=ah qM;replace ml:=ah (ml.out.below qb);replace nM:=ah (aK nM.out qb);rw[HD.out]at sK;rw[HD.out];have PN:=ml.out.lt;clear qM qb x0 x1;go_wp2_with fail;refine(Eb b L at' (n+1) (gP-at') (dg R) P mb 0 (n+1) (n+1) (By*D) w7 zo zo ml.out zo (λj _=>(EU.out j).symm) (sK.out.lim _ (Nat.le_refl _)) (yq rH.out (by first|exact nO.out|exact Bg.out)) ZS (by rw[<-HD.out];exact Nat.mul_div_le _ _) uu.out).mono ?_;rintro e w6 ⟨rfl,mN,rE⟩
     have qG:bD L (fU (dg R) at' (n+1) (dg (P-By*D)))=bD L (dg (R-By*D*WW^at')):=jQ (λj _=>by
      have h:=FE.out j;rw[HP.out,HD.out]at h
      exact h)
     rw[qG]at mN;obtain⟨mU,sW⟩:=aM mN rE;clear mN rE qG;go_wp2;refine bodyPost_ret (results_tmp rfl _ _ _) rfl ⟨rfl,mU.out,Below.thenGrown nM.out sW.out⟩
 . have bj:¬(top:Int)<(b1:Int):=by omega
   have uT:=Qw.out;rw[if_neg hlt,jq]at uT;have agO:18446744073709551615=G:=uT;subst agO;have nO:Hid (18446744073709551615<WW):=by show _<_;rw[jq];decide
   clear uT;have PO:=Hb.out.size;have lx:=Hx.out.lt;obtain⟨W2,hW2⟩:=aB (W.alloc (.cells (bD (n+1) λ_=>0).toArray 142));have hb2:Bw W W2:=by rw[<-hW2];exact zl
   have fw:Hid (ak W2 W.heap.size 142 (bD (n+1) λ_=>0)):=by rw[<-hW2];exact ak.new _ _ _
   obtain⟨gu,qC⟩:=aM (aK Hb.out hb2) (Hx.out.below hb2);clear hb2;obtain⟨y0,y1⟩:=qC.out.c2;go_wp2_with fail;refine(ID W.heap.size (n+1) 0 (n+1) (n+1) (λ_=>0) 0 b2 o2 n cap2 By 18446744073709551615 W2 zo zo fw.out zo (λj _=>by unfold dg;rw[Nat.zero_div];rfl) (Hy.out.below gu.out) rH.out zo nO.out).mono ?_;rintro e w3 ⟨rfl,qB,qg⟩
   have eB:bD (n+1) (fU (λ_=>0) 0 (n+1) (dg (0+By*18446744073709551615)))=bD (n+1) (dg (By*18446744073709551615)):=jQ (λj hj=>by
    have:=El (λ_=>0) 0 (n+1) (dg (0+By*18446744073709551615)) j hj
    simpa only[Nat.zero_add]using this)
   rw[eB]at qB;have jR:=ah qB;have qQ:=yq rH.out nO.out;have vw:=iY qQ;obtain⟨Bl,uK⟩:=aM qQ (qC.out.grown qg (λh=>by have:=Option.some.inj h;omega));have oW:Hid (dR w3 b at' (n+1) P):=(FA.out.below gu.out).grown qg (λh=>by have:=Option.some.inj h;omega);obtain⟨JJ,ey⟩:=aM ((QS.out.below gu.out).grown qg (λh=>by have:=Option.some.inj h;omega)) (gu.out.grown qg (by have:=gu.out.size;omega) (λj e=>by have:=Option.some.inj e;omega));clear qB qg eB qQ x0 x1 y0 y1;obtain⟨x0,x1⟩:=uK.out.c2;go_wp2_with fail;refine(kG W.heap.size 0 (n+1) (n+1) (By*18446744073709551615) w3 zo (Nat.le_refl _) (jR.out.lim _ (Nat.le_refl _)) Bl.out).mono ?_;rintro e w4 ⟨rfl,rfl⟩;go_wp2_with fail;refine(yi W.heap.size 0 (ln (By*18446744073709551615)) (n+1) (By*18446744073709551615) b at' (n+1) (gP-at') P w3 zo vw (jR.out.lim _ vw) (eO _) zo zo oW.out uu.out).mono ?_;rintro e w5 ⟨rfl,dA⟩;obtain⟨fB,zw,sK,ml⟩:=dS dA (uK.out.below dA) (jR.out.below dA) (JJ.out.below dA);have nM:=ah (aK ey.out fB.out);clear dA x0 x1;obtain⟨x0,x1⟩:=zw.out.c2;by_cases hle:By*18446744073709551615<=P
   . have CJ:D=18446744073709551615:=by
      have h1:18446744073709551615<=D:=by rw[<-HD.out];exact(Nat.le_div_iff_mul_le ER.out).2 (by rw[Nat.mul_comm];exact hle)
      have h2:=Rn.out;rw[HD.out]at h2;omega
     have wB:=ah CJ;have lG:=Ls hle;have Ke:=ah hle;clear CJ hle;obtain⟨c,hc⟩:=aB (dm (By*18446744073709551615) P);rw[hc]at lG;rw[hc];clear hc;have ahj:¬0<c:=by omega
     go_wp2_with fail;refine(Eb b L at' (n+1) (gP-at') (dg R) P W.heap.size 0 (n+1) (n+1) (By*18446744073709551615) w5 zo zo ml.out zo (λj _=>(EU.out j).symm) (sK.out.lim _ (Nat.le_refl _)) (yq rH.out (by first|exact nO.out|exact Bg.out)) ZS Ke.out uu.out).mono ?_;rintro e w6 ⟨rfl,mN,rE⟩
     have qG:bD L (fU (dg R) at' (n+1) (dg (P-By*18446744073709551615)))=bD L (dg (R-By*18446744073709551615*WW^at')):=jQ (λj _=>by
      have h:=FE.out j;rw[HP.out,HD.out,wB.out]at h
      exact h)
     rw[qG]at mN;obtain⟨mU,sW⟩:=aM mN rE;clear mN rE qG;go_wp2;refine bodyPost_ret (v:=.int .u64 (D:Int)) (by have hh:=wB.out;simp[results,Tryz.results178,go_sem,hh]) rfl ⟨rfl,by rw[wB.out];exact mU.out,Below.thenGrown nM.out sW.out⟩
   . have lG:=Lr (a:=By*18446744073709551615) (b:=P) zo;have hDl:P/By<18446744073709551615:=by
      rcases Nat.lt_or_ge (P/By) 18446744073709551615 with h|h
      . exact h
      . exact absurd (Nat.le_trans (Nat.mul_le_mul_left By h) (Nat.mul_div_le _ _)) hle
     have Bh:=ah hDl;have Bg:Hid (D<WW):=by have h1:=nO.out;have h2:=Bh.out;rw[HD.out]at h2;exact Nat.lt_trans h2 h1
     clear hDl hle;rw[lG];clear lG;go_wp2_with fail;refine(Xq (some ⟨b,0,none⟩) L gP b2 o2 n cap2 By b at' (gP-at') P 18446744073709551615 w5 zo xL zo (Hy.out.below nM.out) rH.out ER.out (oW.out.below fB.out) uu.out Bh.out nO.out).mono ?_;rintro e w7 ⟨mb,rfl,⟨qM,lmb⟩,qb⟩;have Jc:=nM.out.size;replace sK:=ah qM;replace ml:=ah (ml.out.below qb);replace nM:=ah (aK nM.out qb);rw[HD.out]at sK;rw[HD.out];have PN:=ml.out.lt;clear qM qb x0 x1;go_wp2_with fail;refine(Eb b L at' (n+1) (gP-at') (dg R) P mb 0 (n+1) (n+1) (By*D) w7 zo zo ml.out zo (λj _=>(EU.out j).symm) (sK.out.lim _ (Nat.le_refl _)) (yq rH.out (by first|exact nO.out|exact Bg.out)) ZS (by rw[<-HD.out];exact Nat.mul_div_le _ _) uu.out).mono ?_;rintro e w6 ⟨rfl,mN,rE⟩
     have qG:bD L (fU (dg R) at' (n+1) (dg (P-By*D)))=bD L (dg (R-By*D*WW^at')):=jQ (λj _=>by
      have h:=FE.out j;rw[HP.out,HD.out]at h
      exact h)
     rw[qG]at mN;obtain⟨mU,sW⟩:=aM mN rE;clear mN rE qG;go_wp2;refine bodyPost_ret (results_tmp rfl _ _ _) rfl ⟨rfl,mU.out,Below.thenGrown nM.out sW.out⟩
theorem LB (X Y j:Nat):X% (Y*WW^(j+1))/WW^j/Y=dg (X/Y) j:=by unfold dg;rw[Nat.div_div_eq_div_mul,Nat.div_div_eq_div_mul,show Y*WW^(j+1)=WW^j*Y*WW by rw[Nat.pow_succ,<-Nat.mul_assoc,Nat.mul_comm Y],Nat.mod_mul_right_div_self,Nat.mul_comm Y]
theorem afM (X Y j:Nat):X% (Y*WW^(j+1))-Y* (X% (Y*WW^(j+1))/WW^j/Y) *WW^j=X% (Y*WW^j):=by
 rw[LB];have e:Y*WW^(j+1)=Y*WW^j*WW:=by rw[Nat.pow_succ,<-Nat.mul_assoc]
 have e2:dg (X/Y) j=X/(Y*WW^j)%WW:=by unfold dg;rw[Nat.div_div_eq_div_mul]
 rw[e,Nat.mod_mul,e2];have e3:Y* (X/(Y*WW^j)%WW) *WW^j=Y*WW^j* (X/(Y*WW^j)%WW):=by grind
 rw[e3];omega
theorem aj4 {Y:Nat}(h:0<Y):∃s,s<64/\s=64-bC (dg Y (ln Y-1))/\Y*2^s<WW^ln Y/\9223372036854775808<=dg (Y*2^s) (ln Y-1)/\ln (Y*2^s)=ln Y/\0<bC (dg Y (ln Y-1))/\bC (dg Y (ln Y-1))<=64:=by
 have hl:=IC h;obtain⟨k,hk⟩:∃k,ln Y=k+1:=⟨ln Y-1,by omega⟩;obtain⟨h1,h2⟩:=XD hk;obtain⟨t1,t2,t3⟩:=SJ Y k h1 h2;rw[hk,Nat.add_sub_cancel];obtain⟨B,hB⟩:=aB (bC (dg Y k));rw[hB]at t1 t2 t3⊢;have h3:=pp Y;rw[t1]at h3;have e1:WW^(k+1)=2^(64*k+64):=by rw[kE];congr 1
 have e2:(2:Nat)^(64*k+64)=2^(64*k+B) *2^(64-B):=by rw[<-Nat.pow_add];congr 1;omega
 have hlt:Y*2^(64-B)<WW^(k+1):=by rw[e1,e2];exact Nat.mul_lt_mul_of_pos_right h3 (Nat.pow_pos zd)
 have hge:2^(64*k+B-1)<=Y:=by
  rcases Nat.lt_or_ge Y (2^(64*k+B-1))with h4|h4
  . have:=gw h4;omega
  . exact h4
 have Vz:9223372036854775808*WW^k<=Y*2^(64-B):=by
  have e3:9223372036854775808*WW^k=2^(64*k+B-1) *2^(64-B):=by rw[kE,<-Nat.pow_add,show 64*k+B-1+(64-B)=63+64*k by omega,Nat.pow_add]
  rw[e3];exact Nat.mul_le_mul_right _ hge
 refine⟨64-B,by omega,rfl,hlt,?_,?_,t3,t2⟩
 . unfold dg;have h5:9223372036854775808<=Y*2^(64-B)/WW^k:=(Nat.le_div_iff_mul_le (dY k)).2 Vz;have h6:Y*2^(64-B)/WW^k<WW:=by refine Nat.div_lt_of_lt_mul ?_;rw[Nat.pow_succ]at hlt;exact hlt
   rw[Nat.mod_eq_of_lt h6];exact h5
 . refine XC hlt (Nat.le_trans ?_ Vz);exact Nat.le_mul_of_pos_left _ zd
theorem afk (b o n cap v:Nat)(w:World)(hm:n<=1099511627776)(hcap:n<=cap)(hc:dR w b o n v)(hv:v<WW^n):
 Calls Tryz.prog 165 #[.slice (some ⟨b,o,none⟩) n cap] w λe w'=>e=.returned (.slice (some ⟨b,o,none⟩) (ln v) cap)/\Bw w w':=by
 refine(kG b o n cap v w hm hcap hc hv).mono ?_;rintro e w' ⟨he,rfl⟩;exact⟨he,Below.refl _ _⟩
theorem afP (b m cap v n:Nat)(w:World)(hm:m<=549755813888)(hcap:m<=cap)(hn:n<64)(hx:dR w b 0 m v)(hv:v<WW^m):
 Calls Tryz.prog 167 #[.slice (some ⟨b,0,none⟩) m cap,.int .i64 (n:Int)] w λe w'=>∃a k c,e=.returned (.slice a k c)/\(zD w' a k (v/2^n)/\k<=c/\k<=549755813888/\v/2^n<WW^k)/\Bw w w':=by
 rcases Nat.eq_zero_or_pos m with h|h
 . subst h;have hv0:v=0:=by simpa using hv
   subst hv0;refine(Tt (some ⟨b,0,none⟩) 0 cap n w zo zo zo).mono ?_;rintro e w' ⟨he,rfl⟩;exact⟨none,0,0,he,⟨λh=>absurd h zo,Nat.le_refl _,by omega,by rw[Nat.zero_div];exact dY 0⟩,Below.refl _ _⟩
 . have h64:n/64=0:=by omega
   refine(Tq b 0 m cap v n w hm hcap zo hx hv zo).mono ?_;rintro e w' ⟨he,hB,hb,hle⟩;exact⟨_,_,_,he,⟨λ_=>⟨_,_,rfl,hB.lim _ hle⟩,hle,by omega,eO _⟩,hb⟩
theorem ajS (l m:List UInt8)(w:World)(hl:l.length<=68719476736)(hm:m.length<=68719476736)(hm0:0<nv m)(hle:nv m<=nv l):
 Calls Tryz.prog 156 #[.string (bs l),.string (bs m)] w λe w'=>e=.returned (.tuple #[.string (bs (nt (nv l/nv m))),.string (bs (nt (nv l%nv m))),.bool true])/\Bw w w':=by
 obtain⟨X,hX⟩:=aB (nv l);obtain⟨Y,hY⟩:=aB (nv m);have h1:=λW=>lQ l W zo;have h2:=λW=>lQ m W zo;rw[hX]at h1 hle⊢;rw[hY]at h2 hle hm0⊢;obtain⟨s,hs,Ai,GF,Iu,Ia,Vi,hbl⟩:=aj4 hm0;have UM:0<X:=by omega
 have hlx:=IC UM;have Ds:=IC hm0;obtain⟨lx,xQ⟩:=aB (ln X);obtain⟨ly,xR⟩:=aB (ln Y);have pI:=eO X;have tE:=eO Y;rw[xQ]at h1 hlx pI;rw[xR]at h2 Ds tE GF Iu Ia Ai Vi hbl;obtain⟨cx,jY⟩:=aB ((l.length+7)/8);obtain⟨cy,ve⟩:=aB ((m.length+7)/8);rw[jY]at h1;rw[ve]at h2;have Ib:lx<=cx:=by rw[<-xQ,<-jY,<-hX];exact iY (FK l)
 have Ic:ly<=cy:=by rw[<-xR,<-ve,<-hY];exact iY (FK m)
 have ahk:cx<=8589934593:=by omega
 have GL:cy<=8589934593:=by omega
 have lG:¬dm X Y<0:=by unfold dm;rw[if_neg zo];split<;>omega
 have GN:X*2^s/(Y*2^s)=X/Y:=Nat.mul_div_mul_right _ _ (Nat.pow_pos zd);have hdr:X*2^s% (Y*2^s)=X%Y*2^s:=Nat.mul_mod_mul_right _ _ _;have fA:X*2^s<WW^(lx+1):=by rw[Nat.pow_succ];exact Nat.mul_lt_mul'' pI (by rw[kD];exact Nat.pow_lt_pow_right zd hs)
 have VU:=iY fA;obtain⟨X',Mw⟩:=aB (X*2^s);obtain⟨Y',MA⟩:=aB (Y*2^s);have Iw:=λb W h=>PV b 0 lx cx X s W zo zo h pI;have NE:=λb W h=>PV b 0 ly cy Y s W zo zo h tE;rw[Mw]at GN hdr fA VU;rw[MA]at GN hdr GF Iu Ia;simp only[Mw,show s/64=0 by omega,Nat.add_zero]at Iw;simp only[MA,show s/64=0 by omega,Nat.add_zero,Ia]at NE;obtain⟨lX,GZ⟩:=aB (ln X');rw[GZ]at VU;simp only[GZ]at Iw;have My:X'<WW^lX:=by rw[<-GZ];exact eO _
 have tG:=λb W h=>Lt (some ⟨b,0,none⟩) lX (lx+1) X' ((lx:Int)+2) W zo zo zo h My;rw[show max ((lx:Int)+2).toNat lX=lx+2 by omega]at tG;have Dt:∀W,Calls Tryz.prog 177 #[.int .u64 (dg Y (ly-1):Int)] W λe w'=>e=.returned (.int .i64 (s:Int))/\W=w':=λW=>by have:=Og (dg Y (ly-1)) W (ju _ _);rw[show(64-(bC (dg Y (ly-1)):Int))=(s:Int)by omega]at this;exact this
 have mJ:ly<=lx:=by
  have h3:¬lx<ly:=λh3=>by have:=Oa (v:=X) (u:=Y) (by rw[xQ,xR];exact h3);omega
  omega
 have hmk:=yn ((lx:Int)+2-ly) (lx+2-ly) zo zo;obtain⟨H1,H2,acW,acX,BD,Ki,Fa,Jz,HYW,Ch,Hdq,sP⟩:=gh h1 h2 Iw NE tG Dt pI tE GF Iu GN hdr;obtain⟨anO,yQ,Hm0⟩:=cX My fA hm0;clear h1 h2 Iw NE tG Dt pI tE GF Iu GN hdr My fA hX hY Ai xQ xR jY ve Mw MA GZ Ia hle UM hm0 Vi hbl;go_enter Tryz.func156,Tryz.ntmps156;go_wp2_with fail;refine(H1.out w).mono ?_;rintro e w1 ⟨rfl,bT,hb1,fG⟩;obtain⟨eF,bU⟩:=aM bT hb1;clear bT hb1;go_wp2_with fail;refine(H2.out w1).mono ?_;rintro e w2 ⟨rfl,eN,hb2,Af⟩;obtain⟨fw,bQ⟩:=aM eN (aK bU.out hb2);replace eF:=ah (eF.out.below hb2);have s1:=eF.out.lt;have s2:=fw.out.lt;clear eN hb2;have ahE:((ly:Int)==0)=false:=by simp;omega
 go_wp2_with fail;refine(yi w.heap.size 0 lx cx X w1.heap.size 0 ly cy Y w2 zo fG (eF.out.lim _ fG) Fa.out zo Af (fw.out.lim _ Af) Jz.out).mono ?_;rintro e w3 ⟨rfl,hb3⟩;replace eF:=ah (eF.out.below hb3);replace fw:=ah (fw.out.below hb3);have ey:=ah (aK bQ.out hb3);clear hb3;obtain⟨c,hc⟩:=aB (dm X Y);rw[hc]at lG⊢;clear hc;have hdec:decide (c<0)=false:=by simp;omega
 have i1:=DX ly cy (ly-1) ((ly:Int)-1) (rfl:(some ⟨w1.heap.size,0,none⟩:Option Addr)=_) zo zo;rw[Nat.mul_one,Nat.zero_add]at i1;have cY:w3.cell? ⟨w1.heap.size,ly-1,none⟩=some (.int .u64 (dg Y (ly-1):Int)):=by rw[fw.out.cell,gp _ _ _ zo]
 go_wp2_with fail;refine(Ki.out w3).mono ?_;rintro e w4 ⟨rfl,rfl⟩;clear cY i1;go_wp2_with fail;refine(acW.out w.heap.size w3 (eF.out.lim _ fG)).mono ?_;rintro e w4 ⟨rfl,qB,qb,qle⟩;have Jk:=ah qB;replace fw:=ah (fw.out.below qb);have lf:=ah (aK ey.out qb);have s4:=Jk.out.lt;clear qB qb;go_wp2_with fail;refine(BD.out w3.heap.size w4 (λ_=>⟨_,_,rfl,Jk.out.lim _ zo⟩)).mono ?_;rintro e w5 ⟨rfl,qB,qb⟩;have ma:=ah qB;replace fw:=ah (fw.out.below qb);have fB:=ah (aK lf.out qb);have s5:=ma.out.lt;clear qB qb;go_wp2_with fail;refine(acX.out w1.heap.size w5 (fw.out.lim _ Af)).mono ?_;rintro e w6 ⟨rfl,qB,qb,aqx⟩;have mU:=ah qB;replace ma:=ah (ma.out.below qb);have JG:=ah (aK fB.out qb);have s6:=mU.out.lt;have Za:=ma.out.lt;have q4:=lf.out.size;clear qB qb eF fw Jk bU bQ ey lf fB;obtain⟨M,hM⟩:=aB (lx+2-ly);rw[hM]at hmk;obtain⟨lB,hlB⟩:=aB w4.heap.size;obtain⟨yB,Xc⟩:=aB w5.heap.size;rw[hlB]at ma s5 Za q4⊢;rw[Xc]at mU s6 s5⊢;obtain⟨W7,GD⟩:=aB (w6.alloc (.cells #[.slice (some ⟨lB,0,none⟩) (lx+2) (lx+2),.slice (some ⟨yB,0,none⟩) ly (ly+1)] 198));have jy:Bw w6 W7:=by rw[<-GD];exact zl
 have JP:Hid (ak W7 w6.heap.size 198 [.slice (some ⟨lB,0,none⟩) (lx+2) (lx+2),.slice (some ⟨yB,0,none⟩) ly (ly+1)]):=by rw[<-GD];exact ak.new _ _ _
 have s7:W7.heap.size=w6.heap.size+1:=by rw[<-GD];simp
 obtain⟨W8,Mt⟩:=aB (W7.alloc (.cells (bD M λ_=>0).toArray 142));have fR:Bw W7 W8:=by rw[<-Mt];exact zl
 have Ho:Hid (ak W8 W7.heap.size 142 (bD M λ_=>0)):=by rw[<-Mt];exact ak.new _ _ _
 have Hd:=ah (JP.out.below fR);replace ma:=ah ((ma.out.below jy).below fR);replace mU:=ah ((mU.out.below jy).below fR);have ia:=ah (aK (aK JG.out jy) fR);have Jc:=JG.out.size;have S7:=ah s7;clear jy fR JG hlB Xc s7;obtain⟨d0,d1⟩:=JP.out.c2;go_wp2_with fail;have Rt:Hid (dR W8 yB 0 ly Y'):=mU.out.lim _ zo;have CM:M+ly=lx+2:=by omega
 have Mx:X'<Y'*WW^M:=by have h1:WW^(ly-1)<=Y':=Zz (by have:=Ch.out;omega);have h2:WW^(ly-1) *WW^M<=Y'*WW^M:=Nat.mul_le_mul_right _ h1;rw[<-Nat.pow_add,show ly-1+M=lx+1 by omega]at h2;exact Nat.lt_of_lt_of_le yQ.out h2
 have UO:0<Y':=by
  rcases Nat.eq_zero_or_pos Y' with h|h
  . have:=Ch.out;rw[h]at this;unfold dg at this;simp at this
  . exact h
 have Uw:X'/Y'<WW^M:=Nat.div_lt_of_lt_mul Mx;obtain⟨HXM,HYp,HQM⟩:=cX Mx UO Uw;clear Mx UO Uw d0 d1 GD Mt hmk hM;obtain⟨oB,Nq⟩:=aB W7.heap.size;rw[Nq]at Ho⊢;have Wk:oB=w6.heap.size+1:=by rw[<-Nq];exact S7.out
 obtain⟨dB,Vn⟩:=aB w6.heap.size;rw[Vn]at Hd Wk s6 Za Jc⊢;have aoY:dB<oB:=by omega
 clear Nq Vn S7 JP Wk;go_loopw[12] (λx wr=>∃(k:Nat) (i:Int),k<=M/\i=(k:Int)-1/\x=.int .i64 i/\ak wr dB 198 [.slice (some ⟨lB,0,none⟩) (lx+2) (lx+2),.slice (some ⟨yB,0,none⟩) ly (ly+1)]/\ak wr lB 142 (bD (lx+2) (dg (X'% (Y'*WW^k))))/\ak wr oB 142 (bD M λj=>if k<=j then dg (X'/Y') j else 0)/\dR wr yB 0 ly Y'/\Bw w wr) (λx _=>(intOf x+1).toNat);case atStart=>
  refine⟨M,_,Nat.le_refl _,rfl,rfl,Hd.out,?_,?_,Rt.out,ia.out⟩
  . rw[Nat.mod_eq_of_lt HXM.out];exact ma.out
  . have e:bD M (λj=>if M<=j then dg (X'/Y') j else 0)=bD M λ_=>0:=jQ (λj hj=>by rw[if_neg zo]);rw[e];exact Ho.out
 case round=>
  clear Hd ma Ho Rt ia mU;obtain⟨k,i,hk,hi,rfl,pd,pl,po,py,pb⟩:=hrel;obtain⟨Hd,Hl,Ho,Hy,Hb⟩:=fC pd pl po py pb;clear pd pl po py pb;obtain⟨d0,d1⟩:=Hd.out.c2;by_cases kM:0<k
  . obtain⟨j,rfl⟩:∃j,k=j+1:=⟨k-1,by omega⟩;obtain rfl:i=(j:Int):=by omega
    clear hi;go_wp2_with fail;refine(afI lB (lx+2) (lx+2) (X'% (Y'*WW^(j+1))) yB 0 ly (ly+1) Y' j wr zo (Nat.le_refl _) Ds zo Hl.out Hy.out HYW.out Ch.out (Nat.mod_lt _ (Nat.mul_pos HYp.out (dY _))) zo zo).mono ?_;rintro e w9 ⟨rfl,qB,qg⟩;rw[LB]at qB⊢;have hrest:=afM X' Y' j;rw[LB]at hrest;rw[hrest]at qB;have kn:∀b,b≠lB->some b≠some lB:=λb h e=>h (Option.some.inj e);obtain⟨Hl9,QZ,Kp,Hy9,uy⟩:=fC qB (Hd.out.grown qg (kn _ zo)) (Ho.out.grown qg (kn _ zo)) (Hy.out.grown qg (kn _ zo)) (Hb.out.grown qg Hb.out.size (λb e=>by have:=Option.some.inj e;omega));obtain⟨q,hq⟩:=aB (dg (X'/Y') j);rw[hq];have Hq:=ah hq;have i2:=DX M M j (j:Int) (rfl:(some ⟨oB,0,none⟩:Option Addr)=_) zo rfl;rw[Nat.mul_one,Nat.zero_add]at i2;have co:w9.cell? ⟨oB,j,none⟩=some (.int .u64 ((if j+1<=j then dg (X'/Y') j else 0:Nat):Int)):=by rw[Kp.out.cell,gp _ _ _ zo]
    have fo:w9.frozen? ⟨oB,j,none⟩=false:=Kp.out.free j;clear qB qg hrest hq d0 d1;obtain⟨d0,d1⟩:=QZ.out.c2;go_wp2;go_roundw;case rel=>
     refine⟨j,(j:Int)-1,by omega,rfl,by go_num,QZ.out.so oB j zo _,Hl9.out.so oB j zo _,?_,?_,uy.out.sc oB j zo _⟩
     . have h:=Kp.out.set j (.int .u64 (q:Int));rw[Ba]at h
       have e:bD M (λi=>if i=j then q else if j+1<=i then dg (X'/Y') i else 0)=bD M (λi=>if j<=i then dg (X'/Y') i else 0):=jQ (λi hi=>by
        by_cases h1:i=j
        . subst h1;rw[if_pos rfl,if_pos (Nat.le_refl _)];exact Hq.out.symm
        . rw[if_neg h1];by_cases h2:j+1<=i
          . rw[if_pos h2,if_pos zo]
          . rw[if_neg h2,if_neg zo])
       rw[e]at h;exact h
     . exact λt ht=>fF zp (Hy9.out t ht)
    case measure=>simp[intOf]
  . obtain rfl:k=0:=by omega
    obtain rfl:i= -1:=by omega
    have HL:Hid (dR wr oB 0 M (X'/Y')):=λt ht=>by rw[Ho.out.cell,Nat.zero_add,gp _ _ _ ht,if_pos (Nat.zero_le _)]
    have hR:X'% (Y'*WW^0)=X'%Y':=by rw[Nat.pow_zero,Nat.mul_one]
    rw[hR]at Hl;have QH:Hid (X'%Y'<WW^(lx+2)):=Nat.lt_of_le_of_lt (Nat.mod_le _ _) (Nat.lt_of_lt_of_le yQ.out (Nat.pow_le_pow_right jr zo));have VT:=iY QH.out;have HR:=ah (show X'%Y'/2^s=X%Y by rw[sP.out];exact Nat.mul_div_cancel _ (Nat.pow_pos zd));clear hi hR;go_wp2_with fail;have ml:=Hb;clear Hb;have Hb:Hid (Bw wr wr):=Below.refl _ _;obtain⟨d0,d1⟩:=Hd.out.c2;refine bM (λw'=>w'.cell? ⟨dB,0,none⟩=some (.slice (some ⟨lB,0,none⟩) (lx+2) (lx+2))) (λi=>Nat.blt i 100000) [(0,true),(2,true),(3,true),(5,true),(1,false),(4,false),(6,false),(7,false),(8,true),(9,true),(10,true)] zk zk rfl zk zc d0 ?_;iterate 4 (refine pT rfl rfl ?_;try simp only[UU])
    refine aI rfl rfl (λK hK=>?_);go_simp;with_reducible refine(wj oB 0 M M (X'/Y') _ zo (Nat.le_refl _) (HL.out.below (by first|exact Hb.out|exact Below.drew Hb.out)) HQM.out).mono ?_
    rintro e y1 ⟨rfl,hq⟩;have ae:Bw wr y1:=by first|exact hq|exact aV hq
    clear d0 d1;replace Hd:=kB Hd ae;obtain⟨d0,d1⟩:=Hd.out.c2;replace Hb:=az Hb ae;clear ae;refine hK _ _ (λ_=>d0) ?_;clear hK K;try simp only[UU]
    refine aI rfl rfl (λK hK=>?_);go_simp;with_reducible refine(afk lB 0 (lx+2) (lx+2) (X'%Y') _ zo (Nat.le_refl _) ((Hl.out.lim _ (Nat.le_refl _)).below (by first|exact Hb.out|exact Below.drew Hb.out)) QH.out).mono ?_
    rintro e y2 ⟨rfl,hq⟩;have ae:Bw y1 y2:=by first|exact hq|exact aV hq
    clear d0 d1;replace Hd:=kB Hd ae;obtain⟨d0,d1⟩:=Hd.out.c2;replace Hb:=az Hb ae;clear ae;refine hK _ _ (λ_=>d0) ?_;clear hK K;try simp only[UU]
    refine aI rfl rfl (λK hK=>?_);go_simp;with_reducible refine(afP lB (ln (X'%Y')) (lx+2) (X'%Y') s _ zo VT hs ((Hl.out.lim _ VT).below (by first|exact Hb.out|exact Below.drew Hb.out)) (eO _)).mono ?_
    rintro e y3 ⟨a,k,c2,rfl,⟨qL,qc,qk,qv⟩,hq⟩;have ae:Bw y2 y3:=by first|exact hq|exact aV hq
    clear d0 d1;replace Hd:=kB Hd ae;obtain⟨d0,d1⟩:=Hd.out.c2;replace Hb:=az Hb ae;clear ae;refine hK _ _ (λ_=>d0) ?_;clear hK K;try simp only[UU]
    refine aI rfl rfl (λK hK=>?_);go_simp;with_reducible refine(Zx a k c2 (X'%Y'/2^s) _ zo qc qL qv).mono ?_
    rintro e y4 ⟨rfl,hq⟩;have ae:Bw y3 y4:=by first|exact hq|exact aV hq
    clear d0 d1;replace Hd:=kB Hd ae;obtain⟨d0,d1⟩:=Hd.out.c2;replace Hb:=az Hb ae;clear ae;refine hK _ _ (λ_=>d0) ?_;clear hK K;try simp only[UU]
    iterate 3 (refine pT rfl rfl ?_;try simp only[UU])
    simp only[aZ];go_wp2;refine bodyPost_ret (v:=.tuple #[.string (bs (nt (X/Y))),.string (bs (nt (X%Y))),.bool true]) (by have h1:=Hdq.out;have h2:=HR.out;simp[results,Tryz.results156,go_sem,h1,h2]) rfl ⟨rfl,aK ml.out Hb.out⟩
section
variable {P:Program} {md:Region.Mode} {ops:Array Oper} {Q:Exit->Act->World->Prop} {S:World->Prop} {J:Nat->Bool}
def Cq (md:Region.Mode)(ops:Array Oper)(J:Nat->Bool)(es:List Nat)(D:Nat->List Nat)(last:List (Nat×Bool)):Nat->Array Bool->Bool
 |0,listed=>es.all (λk=>listed.getD k false)&&sG md ops J last listed
 |n+1,listed=>listed.size==ops.size&& !(Region.ready md ops listed).isEmpty&&(Region.ready md ops listed).all λk=>es.contains k&& !(listed.getD k false)&&decide (k<listed.size)&&(D k).all (λd=>es.contains d&&listed.getD d false)&&Cq md ops J es D last n (listed.setIfInBounds k true)
def rP (es:List Nat)(listed:Array Bool)(i:Nat):Bool:=es.contains i&&listed.getD i false
theorem afO {es:List Nat}{listed:Array Bool}{k:Nat}(hk:es.contains k=true)(hl:k<listed.size):rP es (listed.setIfInBounds k true)=λi=>i==k||rP es listed i:=by
 funext i
 unfold rP;by_cases h:i=k
 . subst h;simp only[beq_self_eq_true,Bool.true_or];rw[hk];simp[hl]
 . have h2:(i==k)=false:=by simpa using h
   rw[h2,Bool.false_or,getD_set_ne false (λe=>h e.symm)]
theorem anm (hs:Region.noSelect ops=true)(hQ:∀(o:Oper) c a v w,Q (.panic c) (a.put o.dst v) w->Q (.panic c) a w)(es:List Nat)(D:Nat->List Nat)(last:List (Nat×Bool))(I:(Nat->Bool)->Act->World->Prop)
 (h2:∀dn a w,I dn a w->S w) (h3:∀k∈es,∀dn a w,dn k=false->(∀d∈D k,dn d=true)->I dn a w->wpOp P ops Q k (I λi=>i==k||dn i) a w) (h4:∀dn a w,(∀k∈es,dn k=true)->I dn a w->aZ P ops Q S J last a w) (n:Nat):
 ∀(listed:Array Bool) (a:Act) (w:World),Closed md ops listed->Cq md ops J es D last n listed=true->I (rP es listed) a w->sJ P md ops Q S J (last.length+n) listed a w:=by
 induction n with
 |zero=>intro listed a w hc hok h;simp only[Cq,Bool.and_eq_true,List.all_eq_true]at hok;exact EK hs hQ last _ _ _ hc hok.2 (λ_=>h2 _ _ _ h) (h4 _ _ _ (λk hk=>by unfold rP;rw[hok.1 k hk];simpa using hk) h)
 | succ n ih=>
   intro listed a w hc hok h;simp only[Cq,Bool.and_eq_true,List.all_eq_true]at hok;obtain⟨⟨_,h5⟩,h6⟩:=hok;refine⟨λh0=>(by rw[h0]at h5;simp at h5),λk hk=>?_⟩;obtain⟨⟨⟨⟨q1,q2⟩,q3⟩,q4⟩,q5⟩:=h6 k hk;have q3':k<listed.size:=of_decide_eq_true q3;have hf:rP es listed k=false:=by unfold rP;rw[q1];simpa using q2
   refine wpOp_mono (λa1 w1 q=>⟨λ_=>h2 _ _ _ q,ih _ _ _ (hc.list hk) q5 ?_⟩) (h3 k (by simpa using q1) _ a w hf (λd hd=>by unfold rP;rw[Bool.and_eq_true];exact q4 d hd) h);rw[afO q1 q3'];exact q
def En (md:Region.Mode)(ops:Array Oper)(J:Nat->Bool)(es:List Nat)(D:Nat->List Nat)(last:List (Nat×Bool)):List Nat->Array Bool->Bool
 |[],listed=>es.all (λk=>!(listed.getD k false))&&Cq md ops J es D last es.length listed
 |x::r,listed=>(Region.ready md ops listed).contains x&&Region.free md ops listed x&&waits md ops J x&&En md ops J es D last r (listed.setIfInBounds x true)
def anl (P:Program)(ops:Array Oper)(Q:Exit->Act->World->Prop)(S:World->Prop)(J:Nat->Bool)(es:List Nat)(D:Nat->List Nat)(last:List (Nat×Bool))(a:Act)(w:World):Prop:=
 ∃I:(Nat->Bool)->Act->World->Prop,I (λ_=>false) a w/\(∀dn a w,I dn a w->S w)/\(∀k∈es,∀dn a w,dn k=false->(∀d∈D k,dn d=true)->I dn a w->wpOp P ops Q k (I λi=>i==k||dn i) a w)/\∀dn a w,(∀k∈es,dn k=true)->I dn a w->aZ P ops Q S J last a w
def Be (P:Program)(ops:Array Oper)(Q:Exit->Act->World->Prop)(S:World->Prop)(J:Nat->Bool)(es:List Nat)(D:Nat->List Nat)(last:List (Nat×Bool)):List Nat->Act->World->Prop
 |[],a,w=>anl P ops Q S J es D last a w
 |x::r,a,w=>∃o v,ops[x]?=some o/\YieldsIf P ops S o v a/\Be P ops Q S J es D last r (a.put o.dst v) w
theorem ann (hs:Region.noSelect ops=true)(hQ:∀(o:Oper) c a v w,Q (.panic c) (a.put o.dst v) w->Q (.panic c) a w)(es:List Nat)(D:Nat->List Nat)(last:List (Nat×Bool))(r:List Nat):
 ∀(listed:Array Bool) (a:Act) (w:World),Closed md ops listed->En md ops J es D last r listed=true->S w->Be P ops Q S J es D last r a w->sJ P md ops Q S J (last.length+es.length+r.length) listed a w:=by
 induction r with
 | nil=>
   intro listed a w hc hok hS h;simp only[En,Bool.and_eq_true,List.all_eq_true]at hok;obtain⟨I,h1,h2,h3,h4⟩:=h;have e:rP es listed=λ_=>false:=by
    funext i
    unfold rP;by_cases hi:es.contains i=true
    . have:=hok.1 i (by simpa using hi);rw[hi];simpa using this
    . simp only[Bool.not_eq_true]at hi;rw[hi];rfl
   exact anm hs hQ es D last I h2 h3 h4 es.length listed a w hc hok.2 (by rw[e];exact h1)
 |cons x r ih=>intro listed a w hc hok hS h;simp only[En,Bool.and_eq_true]at hok;obtain⟨⟨⟨h1,h2⟩,h3⟩,h4⟩:=hok;obtain⟨o,v,ho,hy,h⟩:=h;exact EJ ho (Region.noSelect_spec hs) (λc a w=>hQ o c a v w) h3 (last.length+es.length+r.length) listed a w hc h2 (by simpa using h1) hy hS (ih _ _ _ (hc.list (by simpa using h1)) h4 hS h)
theorem ant {id:Nat}{a:Act}{w:World}(S:World->Prop)(J:Nat->Bool)(es:List Nat)(D:Nat->List Nat)(last:List (Nat×Bool))(r:List Nat)(hm:P.follows .mixedOrders=true)(hs:Region.noSelect ops=true)
 (hl:last.length+es.length+r.length=ops.size) (hok:En .any ops J es D last r (Array.replicate ops.size false)=true)
 (hQ:∀(o:Oper) c a v w,Q (.panic c) (a.put o.dst v) w->Q (.panic c) a w) (hS:S w.drew) (h:Be P ops Q S J es D last r a w.drew):(Code.region id ops true).wp P Q a w:=by
 refine wp_region_any hm (EL ops.size _ _ _ ?_ (S:=S) (J:=J));have:=ann (md:=.any) (S:=S) (J:=J) hs hQ es D last r (Array.replicate ops.size false) a w.drew (Closed.empty _) hok hS h;rw[hl]at this;exact this
theorem akG {x:Nat}{es:List Nat}{D:Nat->List Nat}{last:List (Nat×Bool)}{r:List Nat}{o:Oper}{v:Value}{a:Act}{w:World}(ho:ops.toList[x]?=some o)(hw:Region.wanted o (yielded ops a.tmps)=true)
 (hy:∀w',S w'->(execOp a.eval o).run P w'=.ok (.value v) w') (h:Be P ops Q S J es D last r (a.put o.dst v) w):Be P ops Q S J es D last (x::r) a w:=
 ⟨o,v,by rw[<-Array.getElem?_toList];exact ho,.inl ⟨hw,hy⟩,h⟩
theorem akF {es:List Nat}{D:Nat->List Nat}{last:List (Nat×Bool)}{a:Act}{w:World}(I:Act->(Nat->Bool)->Act->World->Prop)(h1:I a (λ_=>false) a w)(h2:∀dn a' w',I a dn a' w'->S w')
 (h3:∀k∈es,∀dn a' w',dn k=false->(∀d∈D k,dn d=true)->I a dn a' w'->wpOp P ops Q k (I a λi=>i==k||dn i) a' w') (h4:∀dn a' w',(∀k∈es,dn k=true)->I a dn a' w'->aZ P ops Q S J last a' w'):Be P ops Q S J es D last [] a w:=
 ⟨I a,h1,h2,h3,h4⟩
theorem AG {k:Nat}{o:Oper}{a:Act}{w:World}{R:Act->World->Prop}(ho:ops.toList[k]?=some o)(hw:Region.wanted o (yielded ops a.tmps)=true)(h:∀K:Act->World->Prop,(∀a' w',R a' w'->K a' w')->o.wp P a w K Q):wpOp P ops Q k R a w:=by rw[Array.getElem?_toList]at ho;unfold wpOp;simp only[ho,hw,if_true];exact .inl (h _ (λa' w' h=>h))
theorem AO (a:Act)(k:Nat):a.put (some k) (a.tmps.getD k undef)=a:=by
 unfold Act.put;have:a.tmps.setIfInBounds k (a.tmps.getD k undef)=a.tmps:=by
  apply Array.ext
  . simp
  . intro i h1 h2;rw[Array.getElem_setIfInBounds];split
    . rename_i e;subst e;simp[h2]
    . rfl
 cases a
 simp only at this⊢;rw[this]
end
section
variable {P:Program} {md:Region.Mode} {ops:Array Oper} {Q:Exit->Act->World->Prop} {S:World->Prop} {J:Nat->Bool}
def solo (r:List Nat)(i:Nat)(b:Bool):Bool:=match r with
 |[k]=>k==i
 |_=>r.contains i&&b
def ug (md:Region.Mode)(ops:Array Oper)(J:Nat->Bool):List (Nat×Bool)->Array Bool->Bool
 |[],listed=>(Region.ready md ops listed).isEmpty
 | (i,true)::rest,listed=>solo (Region.ready md ops listed) i (Region.free md ops listed i&&waits md ops J i)&&ug md ops J rest (listed.setIfInBounds i true)
 | (i,false)::rest,listed=>Region.ready md ops listed==[i]&&(J i|| !rest.any (·.2))&&ug md ops J rest (listed.setIfInBounds i true)
theorem anp (hs:Region.noSelect ops=true)(hQ:∀(o:Oper) c a v w,Q (.panic c) (a.put o.dst v) w->Q (.panic c) a w)(plan:List (Nat×Bool)):
 ∀(listed:Array Bool) (a:Act) (w:World),Closed md ops listed->ug md ops J plan listed=true->(plan.any (·.2)=true->S w)->aZ P ops Q S J plan a w->sJ P md ops Q S J plan.length listed a w:=by
 induction plan with
 |nil=>intro listed a w _ hok _ h;exact⟨List.isEmpty_iff.1 hok,h⟩
 | cons x rest ih=>
   obtain⟨i,b⟩:=x;intro listed a w hc hok hS h;cases b with
   | true=>
     simp only[ug,Bool.and_eq_true]at hok;obtain⟨h1,h4⟩:=hok;obtain⟨o,v,ho,hy,h⟩:=h;have hSw:S w:=hS zm;by_cases hr:Region.ready md ops listed=[i]
     . refine⟨λh0=>(by rw[hr]at h0;cases h0),λj hj=>?_⟩;rw[hr]at hj;obtain rfl:j=i:=by simpa using hj
       exact hy.wpOp ho hSw ⟨λ_=>hSw,ih _ _ _ (hc.list (by rw[hr];exact List.mem_singleton.2 rfl)) h4 (λ_=>hSw) h⟩
     . have h9:(Region.ready md ops listed).contains i=true/\(Region.free md ops listed i&&waits md ops J i)=true:=by
        unfold solo at h1;split at h1
        . rename_i k hk
          have:k=i:=by simpa using h1
          subst this;exact absurd hk hr
        . simpa[Bool.and_eq_true]using h1
       rw[Bool.and_eq_true]at h9;exact EJ ho (Region.noSelect_spec hs) (λc a w=>hQ o c a v w) h9.2.2 rest.length listed a w hc h9.2.1 (by simpa using h9.1) hy hSw (ih _ _ _ (hc.list (by simpa using h9.1)) h4 (λ_=>hSw) h)
   | false=>
     simp only[ug,Bool.and_eq_true,beq_iff_eq]at hok;obtain⟨⟨h1,h2⟩,h3⟩:=hok;refine⟨λh0=>(by rw[h1]at h0;cases h0),λj hj=>?_⟩;rw[h1]at hj;obtain rfl:j=i:=by simpa using hj
     refine wpOp_mono (λa' w' h4=>⟨h4.1,ih _ _ _ (hc.list (by rw[h1];exact List.mem_singleton.2 rfl)) h3 (λtF=>?_) h4.2⟩) h;rw[Bool.or_eq_true]at h2;rcases h2 with h2|h2
     . exact h4.1 h2
     . rw[tF]at h2;cases h2
def uN (n:Nat)(listed:Array Bool)(m:Nat):Prop:=listed.size=n/\∀i,listed.getD i false=m.testBit i
def vZ (md:Region.Mode)(m:Nat):List Oper->Nat->List Nat
 |[],_=>[]
 |o::os,k=>bif !m.testBit k&&o.after.toList.all (λe=>!Region.binds md e||m.testBit e.on)then k::vZ md m os (k+1)else vZ md m os (k+1)
def Gn (md:Region.Mode)(ops:Array Oper)(m:Nat)(oi:Oper)(i:Nat):List Oper->Nat->Bool
 |[],_=>true
 |oj::os,j=>(j==i||m.testBit j|| (oj.after.toList.any (λe=>Region.binds md e&&e.on==i) ||oi.apart ops oj))&&Gn md ops m oi i os (j+1)
def LO (md:Region.Mode)(ops:Array Oper)(m i:Nat):Bool:=match ops[i]? with
 |none=>false
 |some oi=>Gn md ops m oi i ops.toList 0
def AL (md:Region.Mode)(ops:Array Oper)(J:Nat->Bool):List (Nat×Bool)->Nat->Bool
 |[],m=>(vZ md m ops.toList 0).isEmpty
 | (i,true)::rest,m=>solo (vZ md m ops.toList 0) i (LO md ops m i&&waits md ops J i)&&(Nat.blt i ops.size&&AL md ops J rest (m|||2^i))
 | (i,false)::rest,m=>vZ md m ops.toList 0==[i]&&(J i|| !rest.any (·.2))&&(Nat.blt i ops.size&&AL md ops J rest (m|||2^i))
theorem alg (m:Nat):∀(os:List Oper) (k:Nat) (f:Nat->Bool),(∀j (hj:j<os.length),f (k+j)=(!m.testBit (k+j)&&os[j].after.toList.all (λe=>!Region.binds md e||m.testBit e.on)))->vZ md m os k=(List.range' k os.length).filter f:=by
 intro os;induction os with
 |nil=>intro k f _;rfl
 | cons o os ih=>
   intro k f h;have h0:=h 0 zm
   have h1:=ih (k+1) f (λj hj=>by
    have:=h (j+1) zi;rw[show k+(j+1)=k+1+j by omega]at this
    simpa using this)
   rw[Nat.add_zero]at h0;simp only[List.getElem_cons_zero]at h0;rw[List.length_cons,List.range'_succ,List.filter_cons];unfold vZ;rw[h1,h0];cases (!m.testBit k&&o.after.toList.all (λe=>!Region.binds md e||m.testBit e.on))<;>rfl
theorem agx (m:Nat)(oi:Oper)(i:Nat):∀(os:List Oper) (k:Nat) (f:Nat->Bool),(∀j (hj:j<os.length),f (k+j)=(k+j==i||m.testBit (k+j) || (os[j].after.toList.any (λe=>Region.binds md e&&e.on==i) ||oi.apart ops os[j])))->Gn md ops m oi i os k=(List.range' k os.length).all f:=by
 intro os;induction os with
 |nil=>intro k f _;rfl
 | cons o os ih=>
   intro k f h;have h0:=h 0 zm
   have h1:=ih (k+1) f (λj hj=>by
    have:=h (j+1) zi;rw[show k+(j+1)=k+1+j by omega]at this
    simpa using this)
   rw[Nat.add_zero]at h0;simp only[List.getElem_cons_zero]at h0;rw[List.length_cons,List.range'_succ,List.all_cons];unfold Gn;rw[h1,h0]
theorem uN.bit {n:Nat}{listed:Array Bool}{m i:Nat}(h:uN n listed m)(hi:i<n):listed.getD i true=m.testBit i:=by
 rw[<-h.2 i];have:i<listed.size:=by rw[h.1];exact hi
 simp[Array.getD,this]
theorem uN.set {n:Nat}{listed:Array Bool}{m i:Nat}(h:uN n listed m)(hi:i<n):uN n (listed.setIfInBounds i true) (m|||2^i):=by
 refine⟨by simp[h.1],λj=>?_⟩;rw[Nat.testBit_or,<-h.2 j,Nat.testBit_two_pow];by_cases hij:i=j
 . subst hij;have:i<listed.size:=by rw[h.1];exact hi
   simp[Array.getD,this]
 . rw[getD_set_ne false hij];simp[hij]
theorem Pb {listed:Array Bool}{m:Nat}(h:uN ops.size listed m):Region.ready md ops listed=vZ md m ops.toList 0:=by
 rw[alg m ops.toList 0 (λi=>!listed.getD i true&&((ops[i]?).map (·.after.all λe=>!Region.binds md e||listed.getD e.on false)).getD false)]
 . unfold Region.ready;rw[List.range_eq_range',Array.length_toList]
 . intro j hj;rw[Array.length_toList]at hj;rw[Nat.zero_add,h.bit hj,Array.getElem?_eq_getElem hj,Option.map_some,Option.getD_some,Array.getElem_toList,<-Array.all_toList];simp only[h.2]
theorem agy {listed:Array Bool}{m i:Nat}(h:uN ops.size listed m):Region.free md ops listed i=LO md ops m i:=by
 unfold Region.free LO;cases hi:ops[i]? with
 |none=>rfl
 | some oi=>
   simp only
   rw[agx m oi i ops.toList 0 (λj=>j==i||listed.getD j true||match ops[j]? with
    |some oj=>oj.after.any (λe=>Region.binds md e&&e.on==i) ||oi.apart ops oj
    |none=>true)]
   . rw[List.range_eq_range',Array.length_toList];rfl
   . intro j hj;rw[Array.length_toList]at hj;rw[Nat.zero_add,h.bit hj,Array.getElem?_eq_getElem hj,Array.getElem_toList];show(j==i||m.testBit j|| (ops[j].after.any (λe=>Region.binds md e&&e.on==i) ||oi.apart ops ops[j]))=_
     rw[<-Array.any_toList]
theorem akH (plan:List (Nat×Bool)):∀(listed:Array Bool) (m:Nat),uN ops.size listed m->AL md ops J plan m=true->ug md ops J plan listed=true:=by
 induction plan with
 |nil=>intro listed m h hok;unfold ug;rw[Pb h];exact hok
 | cons x rest ih=>
   obtain⟨i,b⟩:=x;intro listed m h hok;cases b with
   |true=>simp only[AL,Bool.and_eq_true]at hok;simp only[ug,Bool.and_eq_true];rw[Pb h,agy h];exact⟨hok.1,ih _ _ (h.set (by simpa using hok.2.1)) hok.2.2⟩
   |false=>simp only[AL,Bool.and_eq_true]at hok;simp only[ug,Bool.and_eq_true];rw[Pb h];exact⟨hok.1,ih _ _ (h.set (by simpa using hok.2.1)) hok.2.2⟩
theorem anu {id:Nat}{a:Act}{w:World}(S:World->Prop)(J:Nat->Bool)(plan:List (Nat×Bool))(hm:P.follows .mixedOrders=true)(hs:Region.noSelect ops=true)
 (hl:plan.length=ops.size) (hok:AL .any ops J plan 0=true)
 (hQ:∀(o:Oper) c a v w,Q (.panic c) (a.put o.dst v) w->Q (.panic c) a w) (hS:S w.drew) (h:aZ P ops Q S J plan a w.drew):(Code.region id ops true).wp P Q a w:=by
 refine wp_region_any hm (EL ops.size _ _ _ ?_ (S:=S) (J:=J))
 have:=anp (md:=.any) (S:=S) (J:=J) hs hQ plan (Array.replicate ops.size false) a w.drew (Closed.empty _) (akH plan _ 0 ⟨by simp,λi=>by rw[Nat.zero_testBit,Array.getD_eq_getD_getElem?,Array.getElem?_replicate];split<;>rfl⟩ hok) (λ_=>hS) h
 rw[hl]at this;exact this
end
end Go.Proofs.YtdaadlblknpipaaGreatDoor
