/- A statement whose order is open,walked in one order: what only reads is taken first;S is asked behind each operation but the last ones (J),for which everything else waits. -/
import Derived.Test.YtdaadlblknpipaaGreatDoorZ6
import Derived.OrdersHeld
import Derived.Test.YtdaadlblknpipaaGreatDoorZ5
set_option linter.unusedVariables false
set_option linter.unusedSimpArgs false
set_option maxRecDepth 100000
set_option maxHeartbeats 16000000
namespace Go.Proofs.YtdaadlblknpipaaGreatDoor
open Go.RowKit
theorem U1 {α:Type}(l:List α)(i:Nat)(a:α):l.toArray.setIfInBounds i a=(l.set i a).toArray:=by simp
theorem U2 {α:Type}(x:α)(l:List α)(a:α):(x::l).set 0 a=a::l:=rfl
theorem U3 {α:Type}(x:α)(l:List α)(i:Nat)(a:α):(x::l).set (i+1) a=x::l.set i a:=rfl
section
variable {P:Program} {md:Region.Mode} {ops:Array Oper} {Q:Exit->Act->World->Prop} {S:World->Prop} {J:Nat->Bool}
def sU (P:Program)(md:Region.Mode)(ops:Array Oper)(Q:Exit->Act->World->Prop)(S:World->Prop)(J:Nat->Bool):Nat->Array Bool->Act->World->Prop
 |0,listed,a,w=>Region.ready md ops listed=[]/\Q .normal a w
 | fuel+1,listed,a,w=>
   (Region.ready md ops listed=[]->Q .normal a w)/\
   ∀i∈Region.ready md ops listed,wpOp P ops Q i (λa' w'=>(J i=true->S w')/\sU P md ops Q S J fuel (listed.setIfInBounds i true) a' w') a w
theorem EE (fuel:Nat):∀(listed:Array Bool) (a:Act) (w:World),sU P md ops Q S J fuel listed a w->wpAny P md ops Q fuel listed a w:=by
 induction fuel with
 |zero=>intro _ _ _ h;exact h
 |succ n ih=>intro _ _ _ h;exact⟨h.1,λi hi=>wpOp_mono (λa' w' h'=>ih _ a' w' h'.2) (h.2 i hi)⟩
def reach (md:Region.Mode)(ops:Array Oper)(i:Nat):Nat->Nat->Bool
 |0,_=>false
 | n+1,j=>match ops[j]? with
   |some oj=>oj.after.any λe=>Region.binds md e&&(e.on==i||reach md ops i n e.on)
   |none=>false
def waits (md:Region.Mode)(ops:Array Oper)(J:Nat->Bool)(i:Nat):Bool:=
 (List.range ops.size).all λj=>j==i||J j||reach md ops i ops.size j
def Closed (md:Region.Mode)(ops:Array Oper)(listed:Array Bool):Prop:=
 ∀(k:Nat) (ok:Oper),listed.getD k false=true->ops[k]?=some ok->∀e∈ok.after,Region.binds md e=true->listed.getD e.on false=true
theorem Closed.empty (n:Nat):Closed md ops (Array.replicate n false):=by
 intro k ok h;exfalso
 rw[Array.getD_eq_getD_getElem?,Array.getElem?_replicate]at h;split at h<;>simp at h
theorem Closed.list {listed:Array Bool}(h:Closed md ops listed){j:Nat}(hj:j∈Region.ready md ops listed):Closed md ops (listed.setIfInBounds j true):=by
 obtain⟨MG,oj,lL,hall⟩:=mem_ready.1 hj;have up:∀n,listed.getD n false=true->(listed.setIfInBounds j true).getD n false=true:=by
  intro n hn;by_cases hjn:j=n
  . subst hjn;rcases Nat.lt_or_ge j listed.size with h'|h'
    . simp[h']
    . simp[Array.getD_eq_getD_getElem?,Array.getElem?_eq_none h']at hn
  . rw[getD_set_ne false hjn];exact hn
 intro k ok hk hok e he hb;by_cases hjk:j=k
 . subst hjk;rw[lL]at hok;cases hok
   exact up _ (hall e he hb)
 . rw[getD_set_ne false hjk]at hk;exact up _ (h k ok hk hok e he hb)
theorem ajV {listed:Array Bool}(hc:Closed md ops listed){i:Nat}(n:Nat):∀(j:Nat) (oj:Oper),ops[j]?=some oj->(∀e∈oj.after,Region.binds md e=true->listed.getD e.on false=true)->reach md ops i n j=true->listed.getD i false=true:=by
 induction n with
 |zero=>intro j oj _ _ h;cases h
 | succ n ih=>
   intro j oj lL hall h;unfold reach at h;rw[lL]at h;simp only at h;rw[Array.any_eq_true]at h;obtain⟨k,hk,h2⟩:=h;simp only[Bool.and_eq_true,Bool.or_eq_true,beq_iff_eq]at h2;have h3:=hall _ (Array.getElem_mem hk) h2.1;rcases h2.2 with h4|h4
   . rw[<-h4];exact h3
   . cases ho:ops[oj.after[k].on]? with
     | none=>
       cases n with
       |zero=>cases h4
       |succ m=>unfold reach at h4;rw[ho]at h4;cases h4
     |some ok=>exact ih _ ok ho (hc _ ok h3 ho) h4
theorem alR {listed:Array Bool}(hc:Closed md ops listed){i:Nat}(h:waits md ops J i=true)(zT:listed.getD i true=false){j:Nat}(hj:j∈Region.ready md ops listed)(hne:j≠i):J j=true:=by
 obtain⟨MG,oj,lL,hall⟩:=mem_ready.1 hj;unfold waits at h;rw[List.all_eq_true]at h;have h1:=h j (List.mem_range.2 (Array.getElem?_eq_some_iff.1 lL).1);simp only[Bool.or_eq_true,beq_iff_eq]at h1;rcases h1 with(h1|h1) |h1
 . exact absurd h1 hne
 . exact h1
 . have h2:=ajV hc _ j oj lL hall h1;rcases Nat.lt_or_ge i listed.size with h'|h'
   . simp[h']at zT h2;rw[zT]at h2;cases h2
   . simp[Array.getD_eq_getD_getElem?,Array.getElem?_eq_none h']at h2
theorem EC {i:Nat}{oi:Oper}{v:Value}(hi:ops[i]?=some oi)(kj:∀(j:Nat) (o:Oper) cs b,ops[j]?=some o->o.op≠ .select cs b)
 (hQ:∀c a w,Q (.panic c) (a.put oi.dst v) w->Q (.panic c) a w) (hJ:waits md ops J i=true) (fuel:Nat):
 ∀(listed:Array Bool) (a:Act) (w:World),Closed md ops listed->Region.free md ops listed i=true->i∈Region.ready md ops listed->YieldsIf P ops S oi v a->S w->
  sU P md ops Q S J fuel (listed.setIfInBounds i true) (a.put oi.dst v) w->sU P md ops Q S J (fuel+1) listed a w:=by
 induction fuel with
 | zero=>
   intro listed a w _ _ hr hy hS H;refine⟨λh=>(by rw[h]at hr;cases hr),λj hj=>?_⟩;by_cases hji:j=i
   . subst hji;exact hy.wpOp hi hS ⟨λ_=>hS,H⟩
   . have:=ready_mono hj hji;rw[H.1]at this;cases this
 | succ n ih=>
   intro listed a w hc hf hr hy hS H;refine⟨λh=>(by rw[h]at hr;cases hr),λj hj=>?_⟩;by_cases hji:j=i
   . subst hji;exact hy.wpOp hi hS ⟨λ_=>hS,H⟩
   . have h1:=H.2 j (ready_mono hj hji);obtain⟨MG,oj,lL,hall⟩:=mem_ready.1 hj;have zT:=(mem_ready.1 hr).1;have agz:∀e∈oj.after,Region.binds md e=true->e.on≠i:=by
      intro e he hb heq;have h2:=hall e he hb;rw[heq]at h2;rcases Nat.lt_or_ge i listed.size with h'|h'
      . simp[h']at zT h2;rw[zT]at h2;cases h2
      . simp[Array.getElem?_eq_none h']at h2
     have hjJ:J j=true:=alR hc hJ zT hj hji;have h2:=wpOp_putIf lL (Region.free_spec hi hf j oj lL hji MG agz) (λcs b=>kj i oi cs b hi) (λcs b=>kj j oj cs b lL) hQ hy h1;have hf':Region.free md ops (listed.setIfInBounds j true) i=true:=by
      unfold Region.free at hf⊢;rw[hi]at hf⊢;simp only[List.all_eq_true]at hf⊢;intro k hk;have:=hf k hk;simp only[Bool.or_eq_true]at this⊢;rcases this with(h3|h3) |h3
      . exact .inl (.inl h3)
      . refine .inl (.inr ?_);by_cases hjk:j=k
        . subst hjk;rcases Nat.lt_or_ge j listed.size with h'|h'
          . simp[h']
          . simp
        . rw[getD_set_ne true hjk];exact h3
      . exact .inr h3
     refine wpOp_mono (λa' w' h3=>⟨h3.2.1,ih (listed.setIfInBounds j true) a' w' (hc.list hj) hf' (ready_mono hr (Ne.symm hji)) h3.1 (h3.2.1 hjJ) ?_⟩) h2;rw[Array.setIfInBounds_comm _ _ hji];exact h3.2.2
def sL (md:Region.Mode)(ops:Array Oper)(J:Nat->Bool):List (Nat×Bool)->Array Bool->Bool
 |[],listed=>(Region.ready md ops listed).isEmpty
 | (i,true)::rest,listed=>(Region.ready md ops listed).contains i&&Region.free md ops listed i&&waits md ops J i&&sL md ops J rest (listed.setIfInBounds i true)
 | (i,false)::rest,listed=>Region.ready md ops listed==[i]&&(J i|| !rest.any (·.2))&&sL md ops J rest (listed.setIfInBounds i true)
def aU (P:Program)(ops:Array Oper)(Q:Exit->Act->World->Prop)(S:World->Prop)(J:Nat->Bool):List (Nat×Bool)->Act->World->Prop
 |[],a,w=>Q .normal a w
 | (i,true)::rest,a,w=>∃o v,ops[i]?=some o/\YieldsIf P ops S o v a/\aU P ops Q S J rest (a.put o.dst v) w
 | (i,false)::rest,a,w=>wpOp P ops Q i (λa' w'=>(J i=true->S w')/\aU P ops Q S J rest a' w') a w
theorem ED (hs:Region.noSelect ops=true)(hQ:∀(o:Oper) c a v w,Q (.panic c) (a.put o.dst v) w->Q (.panic c) a w)(plan:List (Nat×Bool)):
 ∀(listed:Array Bool) (a:Act) (w:World),Closed md ops listed->sL md ops J plan listed=true->(plan.any (·.2)=true->S w)->aU P ops Q S J plan a w->sU P md ops Q S J plan.length listed a w:=by
 induction plan with
 |nil=>intro listed a w _ hok _ h;exact⟨List.isEmpty_iff.1 hok,h⟩
 | cons x rest ih=>
   obtain⟨i,b⟩:=x;intro listed a w hc hok hS h;cases b with
   |true=>simp only[sL,Bool.and_eq_true]at hok;obtain⟨⟨⟨h1,h2⟩,h3⟩,h4⟩:=hok;obtain⟨o,v,ho,hy,h⟩:=h;have hSw:S w:=hS zm;exact EC ho (Region.noSelect_spec hs) (λc a w=>hQ o c a v w) h3 rest.length listed a w hc h2 (by simpa using h1) hy hSw (ih _ _ _ (hc.list (by simpa using h1)) h4 (λ_=>hSw) h)
   | false=>
     simp only[sL,Bool.and_eq_true,beq_iff_eq]at hok;obtain⟨⟨h1,h2⟩,h3⟩:=hok;refine⟨λh0=>(by rw[h1]at h0;cases h0),λj hj=>?_⟩;rw[h1]at hj;obtain rfl:j=i:=by simpa using hj
     refine wpOp_mono (λa' w' h4=>⟨h4.1,ih _ _ _ (hc.list (by rw[h1];exact List.mem_singleton.2 rfl)) h3 (λtQ=>?_) h4.2⟩) h;rw[Bool.or_eq_true]at h2;rcases h2 with h2|h2
     . exact h4.1 h2
     . rw[tQ]at h2;cases h2
theorem bJ {id:Nat}{a:Act}{w:World}(S:World->Prop)(J:Nat->Bool)(plan:List (Nat×Bool))(hm:P.follows .mixedOrders=true)(hs:Region.noSelect ops=true)
 (hl:plan.length=ops.size) (hok:sL .any ops J plan (Array.replicate ops.size false)=true)
 (hQ:∀(o:Oper) c a v w,Q (.panic c) (a.put o.dst v) w->Q (.panic c) a w) (hS:S w.drew) (h:aU P ops Q S J plan a w.drew):(Code.region id ops true).wp P Q a w:=by
 refine wp_region_any hm (EE ops.size _ _ _ ?_ (S:=S) (J:=J));have:=ED (md:=.any) (S:=S) (J:=J) hs hQ plan (Array.replicate ops.size false) a w.drew (Closed.empty _) hok (λ_=>hS) h;rw[hl]at this;exact this
theorem OA {i:Nat}{rest:List (Nat×Bool)}{o:Oper}{v:Value}{a:Act}{w:World}(ho:ops.toList[i]?=some o)(hw:Region.wanted o (yielded ops a.tmps)=true)
 (hy:∀w',S w'->(execOp a.eval o).run P w'=.ok (.value v) w') (h:aU P ops Q S J rest (a.put o.dst v) w):aU P ops Q S J ((i,true)::rest) a w:=
 ⟨o,v,by rw[<-Array.getElem?_toList];exact ho,.inl ⟨hw,hy⟩,h⟩
theorem pT {i:Nat} {rest:List (Nat×Bool)} {o:Oper} {v:Value} {a:Act} {w:World} (ho:ops.toList[i]?=some o) (hw:Region.wanted o (yielded ops a.tmps)=true)
  (h:aU P ops Q S J rest (a.put o.dst v) w) (hy:∀w',S w'->(execOp a.eval o).run P w'=.ok (.value v) w':=by(intro w' hw';go_simp;try with_reducible rfl)):aU P ops Q S J ((i,true)::rest) a w:=OA ho hw hy h
theorem UU :(∀(a:Act) (d:Nat) (v:Value),a.put (some d) v=⟨a.tmps.setIfInBounds d v,a.defers⟩)/\(∀(a:Act) (v:Value),a.put none v=a)/\(∀(α:Type) (l:List α) (i:Nat) (a:α),l.toArray.setIfInBounds i a=(l.set i a).toArray)/\(∀(α:Type) (x:α) (l:List α) (a:α),(x::l).set 0 a=a::l)/\(∀(α:Type) (x:α) (l:List α) (i:Nat) (a:α),(x::l).set (i+1) a=x::l.set i a):=⟨λ_ _ _=>rfl,λ_ _=>rfl,λ_ l i a=>U1 l i a,λ_ _ _ _=>rfl,λ_ _ _ _ _=>rfl⟩
theorem aI {i:Nat}{rest:List (Nat×Bool)}{o:Oper}{a:Act}{w:World}(ho:ops.toList[i]?=some o)(hw:Region.wanted o (yielded ops a.tmps)=true)
 (h:∀K:Act->World->Prop,(∀a' w',(J i=true->S w')->aU P ops Q S J rest a' w'->K a' w')->o.wp P a w K Q):aU P ops Q S J ((i,false)::rest) a w:=by
 show wpOp P ops Q i _ a w
 rw[Array.getElem?_toList]at ho;unfold wpOp;simp only[ho,hw,if_true];exact .inl (h _ (λa' w' h1 h2=>⟨h1,h2⟩))
theorem bN {plan:List (Nat×Bool)}{a:Act}{W:World}(R:World->Prop)(hR:R W)(h:∀W',R W'->aU P ops Q S J plan a W'):aU P ops Q S J plan a W:=h W hR
end
theorem aH {w:World}{p a:Addr}{u v:Value}(hne:a.block≠p.block\/a.off≠p.off)(h:w.cell? a=some v):(w.setCell p u).cell? a=some v:=by rw[World.cell?_setCell_other w p a u (λe=>by subst e;rcases hne with h|h<;>exact h rfl)];exact h
section
variable {P:Program} {md:Region.Mode} {ops:Array Oper} {Q:Exit->Act->World->Prop} {S:World->Prop} {J:Nat->Bool}
def Ej (md:Region.Mode)(ops:Array Oper)(J:Nat->Bool)(i j:Nat)(p1 p2:List (Nat×Bool)):List Nat->Array Bool->Bool
 |[],listed=>Region.ready md ops listed==[i,j]&&sL md ops J p1 (listed.setIfInBounds i true)&&sL md ops J p2 (listed.setIfInBounds j true)
 |x::pre,listed=>(Region.ready md ops listed).contains x&&Region.free md ops listed x&&waits md ops J x&&Ej md ops J i j p1 p2 pre (listed.setIfInBounds x true)
def AQ (P:Program)(ops:Array Oper)(Q:Exit->Act->World->Prop)(S:World->Prop)(J:Nat->Bool)(i j:Nat)(p1 p2:List (Nat×Bool)):List Nat->Act->World->Prop
 |[],a,w=>wpOp P ops Q i (λa1 w1=>S w1/\aU P ops Q S J p1 a1 w1) a w/\wpOp P ops Q j (λa1 w1=>S w1/\aU P ops Q S J p2 a1 w1) a w
 |x::pre,a,w=>∃o v,ops[x]?=some o/\YieldsIf P ops S o v a/\AQ P ops Q S J i j p1 p2 pre (a.put o.dst v) w
theorem alZ (hs:Region.noSelect ops=true)(hQ:∀(o:Oper) c a v w,Q (.panic c) (a.put o.dst v) w->Q (.panic c) a w)(i j:Nat)(p1 p2:List (Nat×Bool))(hl:p2.length=p1.length)(pre:List Nat):
 ∀(listed:Array Bool) (a:Act) (w:World),Closed md ops listed->Ej md ops J i j p1 p2 pre listed=true->S w->AQ P ops Q S J i j p1 p2 pre a w->sU P md ops Q S J (p1.length+1+pre.length) listed a w:=by
 induction pre with
 | nil=>
   intro listed a w hc hok _ h;simp only[Ej,Bool.and_eq_true,beq_iff_eq]at hok;obtain⟨⟨h1,h2⟩,h3⟩:=hok;have mi:i∈Region.ready md ops listed:=by rw[h1];simp
   have mj:j∈Region.ready md ops listed:=by rw[h1];simp
   refine⟨λh0=>(by rw[h1]at h0;cases h0),λk hk=>?_⟩;rw[h1]at hk;simp only[List.mem_cons,List.not_mem_nil,or_false]at hk;rcases hk with rfl|rfl
   . exact wpOp_mono (λa1 w1 q=>⟨λ_=>q.1,ED hs hQ p1 _ _ _ (hc.list mi) h2 (λ_=>q.1) q.2⟩) h.1
   . refine wpOp_mono (λa1 w1 q=>⟨λ_=>q.1,?_⟩) h.2;have:=ED hs hQ p2 _ _ _ (hc.list mj) h3 (λ_=>q.1) q.2;rw[hl]at this;exact this
 |cons x pre ih=>intro listed a w hc hok hS h;simp only[Ej,Bool.and_eq_true]at hok;obtain⟨⟨⟨h1,h2⟩,h3⟩,h4⟩:=hok;obtain⟨o,v,ho,hy,h⟩:=h;exact EC ho (Region.noSelect_spec hs) (λc a w=>hQ o c a v w) h3 (p1.length+1+pre.length) listed a w hc h2 (by simpa using h1) hy hS (ih _ _ _ (hc.list (by simpa using h1)) h4 hS h)
theorem IZ {id:Nat}{a:Act}{w:World}(S:World->Prop)(J:Nat->Bool)(i j:Nat)(p1 p2:List (Nat×Bool))(pre:List Nat)(hm:P.follows .mixedOrders=true)(hs:Region.noSelect ops=true)
 (hl:p1.length+1+pre.length=ops.size) (hl2:p2.length=p1.length) (hok:Ej .any ops J i j p1 p2 pre (Array.replicate ops.size false)=true)
 (hQ:∀(o:Oper) c a v w,Q (.panic c) (a.put o.dst v) w->Q (.panic c) a w) (hS:S w.drew) (h:AQ P ops Q S J i j p1 p2 pre a w.drew):(Code.region id ops true).wp P Q a w:=by
 refine wp_region_any hm (EE ops.size _ _ _ ?_ (S:=S) (J:=J));have:=alZ (md:=.any) (S:=S) (J:=J) hs hQ i j p1 p2 hl2 pre (Array.replicate ops.size false) a w.drew (Closed.empty _) hok hS h;rw[hl]at this;exact this
theorem IE {i j x:Nat}{p1 p2:List (Nat×Bool)}{pre:List Nat}{o:Oper}{v:Value}{a:Act}{w:World}(ho:ops.toList[x]?=some o)(hw:Region.wanted o (yielded ops a.tmps)=true)
 (hy:∀w',S w'->(execOp a.eval o).run P w'=.ok (.value v) w') (h:AQ P ops Q S J i j p1 p2 pre (a.put o.dst v) w):AQ P ops Q S J i j p1 p2 (x::pre) a w:=
 ⟨o,v,by rw[<-Array.getElem?_toList];exact ho,.inl ⟨hw,hy⟩,h⟩
theorem ID {i j:Nat}{p1 p2:List (Nat×Bool)}{oi oj:Oper}{a:Act}{w:World}(hoi:ops.toList[i]?=some oi)(lL:ops.toList[j]?=some oj)(im:Region.wanted oi (yielded ops a.tmps)=true)(oH:Region.wanted oj (yielded ops a.tmps)=true)
 (h1:∀K:Act->World->Prop,(∀a' w',S w'->aU P ops Q S J p1 a' w'->K a' w')->oi.wp P a w K Q) (h2:∀K:Act->World->Prop,(∀a' w',S w'->aU P ops Q S J p2 a' w'->K a' w')->oj.wp P a w K Q):AQ P ops Q S J i j p1 p2 [] a w:=by
 rw[Array.getElem?_toList]at hoi lL;refine⟨?_,?_⟩
 . unfold wpOp;simp only[hoi,im,if_true];exact .inl (h1 _ (λa' w' q1 q2=>⟨q1,q2⟩))
 . unfold wpOp;simp only[lL,oH,if_true];exact .inl (h2 _ (λa' w' q1 q2=>⟨q1,q2⟩))
end
inductive PT where
 |lin (p:List (Nat×Bool))
 |rd (x:Nat) (t:PT)
 |br (i j:Nat) (t1 t2:PT)
 |tr (i j k:Nat) (t1 t2 t3:PT)
def PT.size :PT->Nat
 | .lin p=>p.length
 | .rd _ t=>t.size+1
 | .br _ _ t1 _=>t1.size+1
 | .tr _ _ _ t1 _ _=>t1.size+1
section
variable {P:Program} {md:Region.Mode} {ops:Array Oper} {Q:Exit->Act->World->Prop} {S:World->Prop} {J:Nat->Bool}
def ry (md:Region.Mode)(ops:Array Oper)(J:Nat->Bool):PT->Array Bool->Bool
 | .lin p,listed=>sL md ops J p listed
 | .rd x t,listed=>(Region.ready md ops listed).contains x&&Region.free md ops listed x&&waits md ops J x&&ry md ops J t (listed.setIfInBounds x true)
 | .br i j t1 t2,listed=>Region.ready md ops listed==[i,j]&&t1.size==t2.size&&J i&&J j&&ry md ops J t1 (listed.setIfInBounds i true)&&ry md ops J t2 (listed.setIfInBounds j true)
 | .tr i j k t1 t2 t3,listed=>Region.ready md ops listed==[i,j,k]&&t1.size==t2.size&&t1.size==t3.size&&ry md ops J t1 (listed.setIfInBounds i true)&&ry md ops J t2 (listed.setIfInBounds j true)&&ry md ops J t3 (listed.setIfInBounds k true)
def mf (P:Program)(ops:Array Oper)(Q:Exit->Act->World->Prop)(S:World->Prop)(J:Nat->Bool):PT->Act->World->Prop
 | .lin p,a,w=>aU P ops Q S J p a w
 | .rd x t,a,w=>∃o v,ops[x]?=some o/\YieldsIf P ops S o v a/\mf P ops Q S J t (a.put o.dst v) w
 | .br i j t1 t2,a,w=>wpOp P ops Q i (λa1 w1=>S w1/\mf P ops Q S J t1 a1 w1) a w/\wpOp P ops Q j (λa1 w1=>S w1/\mf P ops Q S J t2 a1 w1) a w
 | .tr i j k t1 t2 t3,a,w=>wpOp P ops Q i (λa1 w1=>S w1/\mf P ops Q S J t1 a1 w1) a w/\wpOp P ops Q j (λa1 w1=>S w1/\mf P ops Q S J t2 a1 w1) a w/\wpOp P ops Q k (λa1 w1=>S w1/\mf P ops Q S J t3 a1 w1) a w
theorem al1 (hs:Region.noSelect ops=true)(hQ:∀(o:Oper) c a v w,Q (.panic c) (a.put o.dst v) w->Q (.panic c) a w)(t:PT):
 ∀(listed:Array Bool) (a:Act) (w:World),Closed md ops listed->ry md ops J t listed=true->S w->mf P ops Q S J t a w->sU P md ops Q S J t.size listed a w:=by
 induction t with
 |lin p=>intro listed a w hc hok hS h;exact ED hs hQ p _ _ _ hc hok (λ_=>hS) h
 | br i j t1 t2 ih1 ih2=>
   intro listed a w hc hok _ h;simp only[ry,Bool.and_eq_true,beq_iff_eq]at hok;obtain⟨⟨⟨⟨⟨h1,hsz⟩,_⟩,_⟩,h2⟩,h3⟩:=hok;have mi:i∈Region.ready md ops listed:=by rw[h1];simp
   have mj:j∈Region.ready md ops listed:=by rw[h1];simp
   refine⟨λh0=>(by rw[h1]at h0;cases h0),λk hk=>?_⟩;rw[h1]at hk;simp only[List.mem_cons,List.not_mem_nil,or_false]at hk;rcases hk with rfl|rfl
   . exact wpOp_mono (λa1 w1 q=>⟨λ_=>q.1,ih1 _ _ _ (hc.list mi) h2 q.1 q.2⟩) h.1
   . refine wpOp_mono (λa1 w1 q=>⟨λ_=>q.1,?_⟩) h.2;have:=ih2 _ _ _ (hc.list mj) h3 q.1 q.2;rw[<-hsz]at this;exact this
 | tr i j k t1 t2 t3 ih1 ih2 ih3=>
   intro listed a w hc hok _ h;simp only[ry,Bool.and_eq_true,beq_iff_eq]at hok;obtain⟨⟨⟨⟨⟨h1,hs2⟩,hs3⟩,h2⟩,h3⟩,h4⟩:=hok;have mi:i∈Region.ready md ops listed:=by rw[h1];simp
   have mj:j∈Region.ready md ops listed:=by rw[h1];simp
   have mk:k∈Region.ready md ops listed:=by rw[h1];simp
   refine⟨λh0=>(by rw[h1]at h0;cases h0),λl hl=>?_⟩;rw[h1]at hl;simp only[List.mem_cons,List.not_mem_nil,or_false]at hl;rcases hl with rfl|rfl|rfl
   . exact wpOp_mono (λa1 w1 q=>⟨λ_=>q.1,ih1 _ _ _ (hc.list mi) h2 q.1 q.2⟩) h.1
   . refine wpOp_mono (λa1 w1 q=>⟨λ_=>q.1,?_⟩) h.2.1;have:=ih2 _ _ _ (hc.list mj) h3 q.1 q.2;rw[<-hs2]at this;exact this
   . refine wpOp_mono (λa1 w1 q=>⟨λ_=>q.1,?_⟩) h.2.2;have:=ih3 _ _ _ (hc.list mk) h4 q.1 q.2;rw[<-hs3]at this;exact this
 |rd x t ih=>intro listed a w hc hok hS h;simp only[ry,Bool.and_eq_true]at hok;obtain⟨⟨⟨h1,h2⟩,h3⟩,h4⟩:=hok;obtain⟨o,v,ho,hy,h⟩:=h;exact EC ho (Region.noSelect_spec hs) (λc a w=>hQ o c a v w) h3 t.size listed a w hc h2 (by simpa using h1) hy hS (ih _ _ _ (hc.list (by simpa using h1)) h4 hS h)
theorem Ja {id:Nat}{a:Act}{w:World}(S:World->Prop)(J:Nat->Bool)(t:PT)(hm:P.follows .mixedOrders=true)(hs:Region.noSelect ops=true)
 (hl:t.size=ops.size) (hok:ry .any ops J t (Array.replicate ops.size false)=true)
 (hQ:∀(o:Oper) c a v w,Q (.panic c) (a.put o.dst v) w->Q (.panic c) a w) (hS:S w.drew) (h:mf P ops Q S J t a w.drew):(Code.region id ops true).wp P Q a w:=by
 refine wp_region_any hm (EE ops.size _ _ _ ?_ (S:=S) (J:=J));have:=al1 (md:=.any) (S:=S) (J:=J) hs hQ t (Array.replicate ops.size false) a w.drew (Closed.empty _) hok hS h;rw[hl]at this;exact this
theorem OB {x:Nat}{t:PT}{o:Oper}{v:Value}{a:Act}{w:World}(ho:ops.toList[x]?=some o)(hw:Region.wanted o (yielded ops a.tmps)=true)
 (hy:∀w',S w'->(execOp a.eval o).run P w'=.ok (.value v) w') (h:mf P ops Q S J t (a.put o.dst v) w):mf P ops Q S J (.rd x t) a w:=
 ⟨o,v,by rw[<-Array.getElem?_toList];exact ho,.inl ⟨hw,hy⟩,h⟩
theorem Av {i j:Nat}{t1 t2:PT}{oi oj:Oper}{a:Act}{w:World}(hJi:J i=true)(hJj:J j=true)(hoi:ops.toList[i]?=some oi)(lL:ops.toList[j]?=some oj)(im:Region.wanted oi (yielded ops a.tmps)=true)(oH:Region.wanted oj (yielded ops a.tmps)=true)
 (h1:∀K:Act->World->Prop,(∀a' w',(J i=true->S w')->mf P ops Q S J t1 a' w'->K a' w')->oi.wp P a w K Q) (h2:∀K:Act->World->Prop,(∀a' w',(J j=true->S w')->mf P ops Q S J t2 a' w'->K a' w')->oj.wp P a w K Q):mf P ops Q S J (.br i j t1 t2) a w:=by
 rw[Array.getElem?_toList]at hoi lL;refine⟨?_,?_⟩
 . unfold wpOp;simp only[hoi,im,if_true];exact .inl (h1 _ (λa' w' q1 q2=>⟨q1 hJi,q2⟩))
 . unfold wpOp;simp only[lL,oH,if_true];exact .inl (h2 _ (λa' w' q1 q2=>⟨q1 hJj,q2⟩))
theorem IG {t:PT}{a:Act}{W:World}(R:World->Prop)(hR:R W)(h:∀W',R W'->mf P ops Q S J t a W'):mf P ops Q S J t a W:=h W hR
theorem sM {p:List (Nat×Bool)}{a:Act}{w:World}(h:aU P ops Q S J p a w):mf P ops Q S J (.lin p) a w:=h
end
def jp (cs:List (Addr×Value))(w:World):Prop:=∀p∈cs,w.cell? p.1=some p.2
theorem jp.below {cs:List (Addr×Value)}{w w':World}(h:jp cs w)(hb:Bw w w'):jp cs w':=λp hp=>cell_later hb (h p hp)
theorem jp.hd {p:Addr×Value}{cs:List (Addr×Value)}{w:World}(h:jp (p::cs) w):w.cell? p.1=some p.2:=h p zm
theorem jp.tl {p:Addr×Value}{cs:List (Addr×Value)}{w:World}(h:jp (p::cs) w):jp cs w:=λq hq=>h q (by simp[hq])
theorem jp.alloc {cs:List (Addr×Value)}{w:World}(h:jp cs w)(o:Obj):jp cs (w.alloc o):=h.below zl
theorem jp.drew {cs:List (Addr×Value)}{w:World}(h:jp cs w):jp cs w.drew:=h
theorem bu {P:Program}{ops:Array Oper}{Q:Exit->Act->World->Prop}{S:World->Prop}{J:Nat->Bool}{i:Nat}{rest:List (Nat×Bool)}{o:Oper}{a:Act}{w:World}(ho:ops.toList[i]?=some o)(hw:Region.wanted o (yielded ops a.tmps)=false)
 (h:aU P ops Q S J rest (a.put o.dst undef) w):aU P ops Q S J ((i,true)::rest) a w:=
 ⟨o,undef,by rw[<-Array.getElem?_toList];exact ho,.inr ⟨hw,rfl⟩,h⟩
theorem Oz {P:Program}{ops:Array Oper}{Q:Exit->Act->World->Prop}{S:World->Prop}{J:Nat->Bool}{i:Nat}{rest:List (Nat×Bool)}{o:Oper}{a:Act}{w:World}(ho:ops.toList[i]?=some o)(hw:Region.wanted o (yielded ops a.tmps)=false)
 (hS:J i=true->S w) (h:aU P ops Q S J rest (a.put o.dst undef) w):aU P ops Q S J ((i,false)::rest) a w:=by
 show wpOp P ops Q i _ a w
 rw[Array.getElem?_toList]at ho;unfold wpOp;simp only[ho,hw];exact⟨hS,h⟩
def iw (A w:World):Prop:=Bw A w
theorem iw.below {A w w':World}(h:iw A w)(hb:Bw w w'):iw A w':=aJ h hb
theorem iw.alloc {A w:World}(h:iw A w)(o:Obj):iw A (w.alloc o):=h.below zl
theorem iw.drew {A w:World}(h:iw A w):iw A w.drew:=Below.drew h
theorem Lf {a b:Nat}(h:b<a):dh a b=1:=by unfold dh;rw[if_neg zo,if_pos h]
theorem Lg {a b:Nat}(h:a<=b):dh a b<=0:=by unfold dh;split;decide;rw[if_neg zo];decide
theorem ab8 (n:Nat):WW^(n+1)=WW^n*WW:=Nat.pow_succ _ _
theorem yc {By q n:Nat}(hB:By<WW^n)(hq:q<WW):By*q<WW^(n+1):=by
 rw[ab8];rcases Nat.eq_zero_or_pos q with h|h
 . subst h;rw[Nat.mul_zero];exact Nat.mul_pos (dY n) js
 . exact Nat.mul_lt_mul'' hB hq
theorem WL (a:Option Addr)(L gW b2 o2 n cap2 By pb po ji P q:Nat)(w:World)(hn:n<=1099511627774)(xz:n<=cap2)(hpc:n+1<=ji)(hy:dS w b2 o2 n By)(hB:By<WW^n)(Ty:0<By)
 (hp:dS w pb po (n+1) P) (hP:P<WW^(n+1)) (hq:P/By<q) (hqW:q<WW):
 Calls Tryz.prog 189 #[.agg #[.slice a L gW,.slice (some ⟨b2,o2,none⟩) n cap2],.slice (some ⟨pb,po,none⟩) (n+1) ji,.int .u64 (q:Int)] w λe w'=>∃mb,
  e=.returned (.tuple #[.int .u64 ((P/By:Nat):Int),.slice (some ⟨mb,0,none⟩) (n+1) (n+1)])/\(ak w' mb 142 (bB (n+1) (dg (By* (P/By))))/\w.heap.size<=mb)/\Bw w w':=by
 obtain⟨Hy,HB,Qb,Hp,HP⟩:=fg hy hB Ty hp hP;obtain⟨D,hD⟩:=aB (P/By);have HD:=ah hD;rw[hD]at hq⊢;rw[jr]at hqW;have WZ:pb<w.heap.size:=World.block_lt_of_cell? w _ (hp 0 zo);have fK:0<n->b2<w.heap.size:=λh=>World.block_lt_of_cell? w _ (hy 0 h);have hn0:0<n:=by
  rcases Nat.eq_zero_or_pos n with h|h
  . subst h;simp at hB;omega
  . exact h
 obtain⟨Lpb,Lb2⟩:=aL WZ (fK hn0);clear hy hB Ty hp hP hD WZ fK;have hmk:=ya ((n:Int)+1) (n+1) zo zo;obtain⟨W,dc,Hb,Hx⟩:=iF w 198 [.slice a L gW,.slice (some ⟨b2,o2,none⟩) n cap2];obtain⟨x0,x1⟩:=Hx.out.c2;go_enter Tryz.func189,Tryz.ntmps189;go_wp2_with fail;go_loopw[2,8] (λqv _ wr=>∃k:Nat,D<k/\k<=q/\qv=.int .u64 (k:Int)/\ak wr w.heap.size 198 [.slice a L gW,.slice (some ⟨b2,o2,none⟩) n cap2]/\Bw w wr) (λqv _ _=>(intOf qv).toNat);case atStart=>exact⟨q,hq,Nat.le_refl _,rfl,Hx.out,Hb.out⟩
 case round=>
  clear x0 x1 Hx Hb;obtain⟨k,hk1,hk2,rfl,px,XH⟩:=hrel;obtain⟨Hx,Hb⟩:=aL px XH;clear px XH;obtain⟨m,rfl⟩:∃m,k=m+1:=⟨k-1,by omega⟩;have hm:IntKind.u64.wrap (((m+1:Nat):Int)-1)=(m:Int):=by rw[IntKind.wrap_u64];omega
  obtain⟨x0,x1⟩:=Hx.out.c2;have Vs:m<WW:=by rw[jr];omega
  have Rb:=ah Vs;clear Vs;have lx:=Hx.out.lt;have sz:=Hb.out.size;obtain⟨W2,hW2⟩:=aB (wr.alloc (.cells (bB (n+1) λ_=>0).toArray 142));have hb2:Bw wr W2:=by rw[<-hW2];exact zl
  have ft:Hid (ak W2 wr.heap.size 142 (bB (n+1) λ_=>0)):=by rw[<-hW2];exact ak.new _ _ _
  replace Hx:=ah (Hx.out.below hb2);have gj:=ah (aJ Hb.out hb2);have Yo:W2.heap.size=wr.heap.size+1:=by rw[<-hW2];simp
  have amD:=ah Yo;clear Yo hb2;obtain⟨y0,y1⟩:=Hx.out.c2;go_wp2_with fail;refine(Ik wr.heap.size (n+1) 0 (n+1) (n+1) (λ_=>0) 0 b2 o2 n cap2 By m W2 zo zo ft.out zo (λj _=>by unfold dg;rw[Nat.zero_div];rfl) (Hy.out.below gj.out) HB.out (by have:=Lb2.out;omega) Rb.out).mono ?_;rintro e w3 ⟨rfl,qB,qg⟩
  have eB:bB (n+1) (gg (λ_=>0) 0 (n+1) (dg (0+By*m)))=bB (n+1) (dg (By*m)):=jN (λj hj=>by
   have:=Eg (λ_=>0) 0 (n+1) (dg (0+By*m)) j hj
   simpa only[Nat.zero_add]using this)
  rw[eB]at qB;obtain⟨jP,QO⟩:=aL qB qg;have qJ:=yc HB.out Rb.out;have vw:=ja qJ;obtain⟨Bc,uI⟩:=aL qJ (Hx.out.grown qg (λh=>by have:=Option.some.inj h;omega));have oW:Hid (dS w3 pb po (n+1) P):=(Hp.out.below gj.out).grown qg (λh=>by have:=Option.some.inj h;have:=Lpb.out;omega);have ey:=ah (gj.out.grown qg (by have:=gj.out.size;omega) (λj e=>by have:=Option.some.inj e;omega));clear qB qg eB qJ x0 x1 y0 y1;obtain⟨x0,x1⟩:=uI.out.c2;go_wp2_with fail;refine(kI wr.heap.size 0 (n+1) (n+1) (By*m) w3 zo (Nat.le_refl _) (jP.out.lim _ (Nat.le_refl _)) Bc.out).mono ?_;rintro e w4 ⟨rfl,rfl⟩;go_wp2_with fail;refine(xX wr.heap.size 0 (ln (By*m)) (n+1) (By*m) pb po (n+1) ji P w3 zo vw (jP.out.lim _ vw) (eK _) zo hpc oW.out HP.out).mono ?_;rintro e w5 ⟨rfl,dK⟩;obtain⟨fL,yS,mg⟩:=cL dK (uI.out.below dK) (jP.out.below dK);clear dK x0 x1;obtain⟨x0,x1⟩:=yS.out.c2;have mG:=Nat.div_add_mod P By;have rY:=Nat.mod_lt P Qb.out;rw[HD.out]at mG;by_cases hle:By*m<=P
  . have hmD:D=m:=by
     have h1:m<=D:=by rw[<-HD.out];exact(Nat.le_div_iff_mul_le Qb.out).2 (by rw[Nat.mul_comm];exact hle)
     omega
    subst hmD;have lJ:=Lg hle;clear mG rY hle;generalize dh (By*D) P=c at*;go_wp2;refine bodyPost_ret (v:=.tuple #[.int .u64 (D:Int),.slice (some ⟨wr.heap.size,0,none⟩) (n+1) (n+1)]) (by simp[results,Tryz.results189,go_sem]) rfl ⟨wr.heap.size,rfl,⟨mg.out,sz⟩,aJ ey.out fL.out⟩
  . have hlt:D<m:=by
     rcases Nat.lt_or_ge D m with h|h
     . exact h
     . exact absurd (Nat.le_trans (Nat.mul_le_mul_left By h) zo) hle
    have lJ:=Lf (a:=By*m) (b:=P) zo;clear mG rY;rw[lJ];go_wp2;go_roundw;case rel=>exact⟨m,hlt,by omega,by go_num,yS.out,aJ ey.out fL.out⟩
    case measure=>simp[intOf]
theorem _root_.Go.RowKit.Below.thenGrown {w a c:World}{b:Nat}(h:Bw w a)(k:a.grownBy c (some b)):w.grownBy c (some b):=
 ⟨k.os.trans h.os,k.tape.trans h.tape,k.output.trans h.output,Nat.le_trans h.size k.size,λi hi hn=>(k.block i (Nat.lt_of_lt_of_le hi h.size) hn).trans (h.block i hi)⟩
def Wn (w:World)(b o:Nat)(cs:List Value):Prop:=∀j (h:j<cs.length),w.cell? ⟨b,o+j,none⟩=some cs[j]
theorem Wn.cell {w:World}{b o:Nat}{cs:List Value}(h:Wn w b o cs)(j:Nat)(hj:j<cs.length):w.cell? ⟨b,o+j,none⟩=some cs[j]:=h j hj
theorem Wn.below {w w':World}{b o:Nat}{cs:List Value}(h:Wn w b o cs)(hb:Bw w w'):Wn w' b o cs:=λj hj=>cell_later hb (h j hj)
theorem aez (h lo y:Nat)(w:World)(hy1:9223372036854775808<=y)(hy:y<WW)(hh:h<y)(hl:lo<WW):
 Calls Tryz.prog 188 #[.int .u64 (h:Int),.int .u64 (lo:Int),.int .u64 (y:Int)] w λe w'=>(∃r,e=.returned (.tuple #[.int .u64 (((h*WW+lo)/y:Nat):Int),.int .u64 r]))/\Bw w w':=by
 rcases Nat.eq_zero_or_pos h with h0|h0
 . subst h0;refine(aeB lo y w zo hy hl).mono ?_;rintro e w' ⟨r,rfl,hb⟩;refine⟨⟨r,?_⟩,hb⟩;rw[Nat.zero_mul,Nat.zero_add]
 . refine(aeA h lo y w hy1 hy hh hl h0).mono ?_;rintro e w' ⟨r,he,hb⟩;exact⟨⟨r,he⟩,hb⟩
theorem take_at {R By at' n:Nat}(hR:R<WW^(at'+n+1))(j:Nat):
 gg (dg R) at' (n+1) (dg (R/WW^at'-By* (R/WW^at'/By))) j=dg (R-By* (R/WW^at'/By) *WW^at') j:=by
 obtain⟨P,hP⟩:=aB (R/WW^at');obtain⟨lo,hlo⟩:=aB (R%WW^at');obtain⟨S,hS⟩:=aB (By* (P/By));have hl:lo<WW^at':=by rw[<-hlo];exact Nat.mod_lt _ (dY _)
 have e:=Nat.div_add_mod R (WW^at');rw[hP,hlo]at e;have hSP:S<=P:=by rw[<-hS];exact Nat.mul_div_le _ _
 have hPn:P<WW^(n+1):=by rw[<-hP];refine Nat.div_lt_of_lt_mul ?_;rw[<-Nat.pow_add];exact hR
 rw[hP,hS];have e1:R=P*WW^at'+lo:=by rw[<-e,Nat.mul_comm]
 have e2:R-S*WW^at'=(P-S) *WW^at'+lo:=by have:S*WW^at'<=P*WW^at':=Nat.mul_le_mul_right _ hSP;rw[e1,Nat.sub_mul];omega
 rw[e2,SP _ _ _ _ hl];unfold gg;by_cases h1:j<at'
 . rw[if_neg zo,if_pos h1,e1,SP _ _ _ _ hl,if_pos h1]
 . rw[if_neg h1];by_cases h2:j<at'+(n+1)
   . rw[if_pos zo]
   . rw[if_neg zo,rM (k:=at'+n+1) hR zo,rM (k:=n+1) (Nat.lt_of_le_of_lt (Nat.sub_le _ _) hPn) zo]
theorem aey (b L gW R b2 o2 n cap2 By at':Nat)(w:World)(hL:L<=1099511627775)(hLc:L<=gW)(hn:0<n)(xz:n<=cap2)(hB:ak w b 142 (bB L (dg R)))(hy:dS w b2 o2 n By)(Gh:By<WW^n)(htop:9223372036854775808<=dg By (n-1))
 (hR:R<By*WW^(at'+1)) (hat:at'+n+1<=L) (hne:b2≠b):
 Calls Tryz.prog 178 #[.agg #[.slice (some ⟨b,0,none⟩) L gW,.slice (some ⟨b2,o2,none⟩) n cap2],.int .i64 (at':Int)] w λe w'=>
  e=.returned (.int .u64 ((R/WW^at'/By:Nat):Int))/\ak w' b 142 (bB L (dg (R-By* (R/WW^at'/By) *WW^at')))/\w.grownBy w' (some b):=by
 have Tz:0<By:=by
  rcases Nat.eq_zero_or_pos By with h|h
  . subst h;unfold dg at htop;simp at htop
  . exact h
 have Mc:R<WW^(at'+n+1):=by refine Nat.lt_of_lt_of_le hR ?_;rw[show WW^(at'+n+1)=WW^n*WW^(at'+1)by rw[<-Nat.pow_add];congr 1;omega];exact Nat.mul_le_mul_right _ (Nat.le_of_lt Gh)
 have htake:=λj=>take_at (R:=R) (By:=By) (at':=at') (n:=n) Mc j;obtain⟨P,hP⟩:=aB (R/WW^at');have TV:P<By*WW:=by rw[<-hP];refine Nat.div_lt_of_lt_mul ?_;rw[<-Nat.mul_assoc,Nat.mul_comm _ By,Nat.mul_assoc,Nat.mul_comm (WW^at'),<-Nat.pow_succ'];exact hR
 have TW:P<WW^(n+1):=by rw[<-hP];refine Nat.div_lt_of_lt_mul ?_;rw[<-Nat.pow_add];exact Mc
 have CP:∀j,dg P j=dg R (at'+j):=λj=>by rw[<-hP];exact FT R at' j
 obtain⟨G,hG⟩:=aB (if dg P n<dg By (n-1)then(dg P n*WW+dg P (n-1))/dg By (n-1)else WW-1);have hge:=afs (P:=P) (by':=By) hn TV zo Gh;rw[hG]at hge;have Mq:=ju By (n-1);have Mf:=ju P (n-1);obtain⟨top,Np⟩:=aB (dg P n);obtain⟨T0,hT0⟩:=aB (dg P (n-1));obtain⟨b1,hb1⟩:=aB (dg By (n-1));rw[Np,hT0,hb1]at hG;rw[hb1]at htop Mq;rw[hT0]at Mf;have hlb:=hB.lt;have ags:b2<w.heap.size:=World.block_lt_of_cell? w _ (hy 0 hn);have Li:w.cell? ⟨b,at'+n,none⟩=some (.int .u64 (top:Int)):=by rw[hB.cell,gD _ _ _ zo,<-Np,CP]
 have KZ:w.cell? ⟨b,at'+n-1,none⟩=some (.int .u64 (T0:Int)):=by rw[hB.cell,gD _ _ _ zo,<-hT0,CP];congr 4;omega
 have Lc:w.cell? ⟨b2,o2+(n-1),none⟩=some (.int .u64 (b1:Int)):=by rw[<-hb1];exact hy _ zo
 have Dx:dS w b at' (n+1) P:=λj hj=>by rw[hB.cell,gD _ _ _ zo,CP]
 have i1:=DV L gW (at'+n) ((at':Int)+(n:Int)) (rfl:(some ⟨b,0,none⟩:Option Addr)=_) zo zo;have i2:=DV L gW (at'+n-1) ((at':Int)+(n:Int)-1) (rfl:(some ⟨b,0,none⟩:Option Addr)=_) zo zo;have i3:=DV n cap2 (n-1) ((n:Int)-1) (rfl:(some ⟨b2,o2,none⟩:Option Addr)=_) zo zo;rw[Nat.mul_one,Nat.zero_add]at i1 i2;rw[Nat.mul_one]at i3;have hsl:at'+n+1-at'=n+1:=by omega
 have hmk:=ya ((n:Int)+1) (n+1) zo zo;obtain⟨Qy,Hy,rD,EJ,ux,HP,QR,Qf,Fl,Fg,Hne,EM⟩:=fR hB hy Gh Tz TW hP hge hG htake Dx hne CP;obtain⟨Ch,ZY,Qs⟩:=cL htop Mq Mf;obtain⟨D,hD⟩:=aB (P/By);have HD:=ah hD;rw[hP,hD];rw[hD]at hge;have JD:Hid (Wn w b (at'+n) [.int .u64 (top:Int)]):=λj hj=>by
  obtain rfl:j=0:=by simp at hj;omega
  exact Li
 have wI:Hid (Wn w b (at'+n-1) [.int .u64 (T0:Int)]):=λj hj=>by
  obtain rfl:j=0:=by simp at hj;omega
  exact KZ
 have wJ:Hid (Wn w b2 (o2+(n-1)) [.int .u64 (b1:Int)]):=λj hj=>by
  obtain rfl:j=0:=by simp at hj;omega
  exact Lc
 clear hB hy Gh Tz TW hP hge hG htake Dx hne htop Mq Mf hD TV CP Mc hR Np hT0 hb1 Li KZ Lc;obtain⟨W,dc,Hb,Hx⟩:=iF w 198 [.slice (some ⟨b,0,none⟩) L gW,.slice (some ⟨b2,o2,none⟩) n cap2];obtain⟨x0,x1⟩:=Hx.out.c2;replace JD:=ah (JD.out.below Hb.out);replace wI:=ah (wI.out.below Hb.out);replace wJ:=ah (wJ.out.below Hb.out);have Li:W.cell? ⟨b,at'+n,none⟩=some (.int .u64 (top:Int)):=JD.out.cell 0 zm;have KZ:W.cell? ⟨b,at'+n-1,none⟩=some (.int .u64 (T0:Int)):=wI.out.cell 0 zm;have Lc:W.cell? ⟨b2,o2+(n-1),none⟩=some (.int .u64 (b1:Int)):=wJ.out.cell 0 zm;go_enter Tryz.func178,Tryz.ntmps178;by_cases hlt:top<b1
 . have bj:(top:Int)<(b1:Int):=by omega
   have zP:=λW=>aez top T0 b1 W Ch.out ZY.out hlt Qs.out;have uR:=Qf.out;rw[if_pos hlt]at uR;rw[uR]at zP;have nQ:Hid (G<WW):=by
    show _<_
    rw[<-uR];refine Nat.div_lt_of_lt_mul ?_;have h1:=Qs.out;have h2:(top+1) *WW<=b1*WW:=Nat.mul_le_mul_right _ hlt;rw[Nat.add_mul,Nat.one_mul]at h2;omega
   have yJ:=ah zP;clear zP uR;go_wp2_with fail;have k1:IntKind.i64.wrap ((at':Int)+(n:Int))=(at':Int)+(n:Int):=by rw[IntKind.wrap_i64];omega
   have k2:IntKind.i64.wrap ((at':Int)+(n:Int)-1)=(at':Int)+(n:Int)-1:=by rw[IntKind.wrap_i64];omega
   have k3:IntKind.i64.wrap ((n:Int)-1)=(n:Int)-1:=by rw[IntKind.wrap_i64];omega
   obtain⟨x0,x1⟩:=Hx.out.c2;have FM:W.cell? ⟨b,at'+n-1,none⟩=some (.int .u64 (T0:Int)):=wI.out.cell 0 zm;have FO:W.cell? ⟨b2,o2+(n-1),none⟩=some (.int .u64 (b1:Int)):=wJ.out.cell 0 zm;refine bJ (λw'=>w'.cell? ⟨w.heap.size,0,none⟩=some (.slice (some ⟨b,0,none⟩) L gW)/\w'.cell? ⟨w.heap.size,1,none⟩=some (.slice (some ⟨b2,o2,none⟩) n cap2)/\w'.cell? ⟨b,at'+n-1,none⟩=some (.int .u64 (T0:Int))/\w'.cell? ⟨b2,o2+(n-1),none⟩=some (.int .u64 (b1:Int))) (λi=>Nat.blt i 100000) [(0,true),(1,true),(2,true),(3,true),(4,true),(5,true),(6,true),(7,true),(8,true),(9,true),(10,true),(11,true),(12,true),(13,true),(14,true),(15,false),(16,true),(17,true),(18,true),(19,true)] zk zk rfl zk zc ⟨x0,x1,FM,FO⟩ ?_;iterate 15 (refine pT rfl rfl ?_ (by intro w' ⟨q0,q1,q2,q3⟩;go_simp;try with_reducible rfl);try simp only[UU])
   refine aI rfl rfl (λK hK=>?_);go_simp;with_reducible refine(yJ.out _).mono ?_
   rintro e w1 ⟨⟨r,rfl⟩,hq⟩;have ae:Bw W w1:=by first|exact hq|exact aM hq
   clear x0 x1 FM FO;replace Hx:=kB Hx ae;replace wI:=ah (wI.out.below ae);replace wJ:=ah (wJ.out.below ae);obtain⟨x0,x1⟩:=Hx.out.c2;have FM:w1.cell? ⟨b,at'+n-1,none⟩=some (.int .u64 (T0:Int)):=wI.out.cell 0 zm;have FO:w1.cell? ⟨b2,o2+(n-1),none⟩=some (.int .u64 (b1:Int)):=wJ.out.cell 0 zm;replace Hb:=au Hb ae;clear ae;refine hK _ _ (λ_=>⟨x0,x1,FM,FO⟩) ?_;clear hK K;try simp only[UU]
   iterate 4 (refine pT rfl rfl ?_;try simp only[UU])
   simp only[aU];have Pw:=Hb.out.size;have lx:=Hx.out.lt;obtain⟨W2,hW2⟩:=aB (w1.alloc (.cells (bB (n+1) λ_=>0).toArray 142));have hb2:Bw w1 W2:=by rw[<-hW2];exact zl
   have ft:Hid (ak W2 w1.heap.size 142 (bB (n+1) λ_=>0)):=by rw[<-hW2];exact ak.new _ _ _
   obtain⟨gj,qo⟩:=aL (aJ Hb.out hb2) (Hx.out.below hb2);clear hb2;obtain⟨y0,y1⟩:=qo.out.c2;go_wp2_with fail;refine(Ik w1.heap.size (n+1) 0 (n+1) (n+1) (λ_=>0) 0 b2 o2 n cap2 By G W2 zo zo ft.out zo (λj _=>by unfold dg;rw[Nat.zero_div];rfl) (Hy.out.below gj.out) rD.out zo nQ.out).mono ?_;rintro e w3 ⟨rfl,qB,qg⟩
   have eB:bB (n+1) (gg (λ_=>0) 0 (n+1) (dg (0+By*G)))=bB (n+1) (dg (By*G)):=jN (λj hj=>by
    have:=Eg (λ_=>0) 0 (n+1) (dg (0+By*G)) j hj
    simpa only[Nat.zero_add]using this)
   rw[eB]at qB;have jP:=ah qB;have qJ:=yc rD.out nQ.out;have vw:=ja qJ;obtain⟨Bc,uI⟩:=aL qJ (qo.out.grown qg (λh=>by have:=Option.some.inj h;omega));have oW:Hid (dS w3 b at' (n+1) P):=(Fg.out.below gj.out).grown qg (λh=>by have:=Option.some.inj h;omega);obtain⟨Jy,ey⟩:=aL ((Qy.out.below gj.out).grown qg (λh=>by have:=Option.some.inj h;omega)) (gj.out.grown qg (by have:=gj.out.size;omega) (λj e=>by have:=Option.some.inj e;omega));clear qB qg eB qJ x0 x1 y0 y1;obtain⟨x0,x1⟩:=uI.out.c2;go_wp2_with fail;refine(kI w1.heap.size 0 (n+1) (n+1) (By*G) w3 zo (Nat.le_refl _) (jP.out.lim _ (Nat.le_refl _)) Bc.out).mono ?_;rintro e w4 ⟨rfl,rfl⟩;go_wp2_with fail;refine(xX w1.heap.size 0 (ln (By*G)) (n+1) (By*G) b at' (n+1) (gW-at') P w3 zo vw (jP.out.lim _ vw) (eK _) zo zo oW.out ux.out).mono ?_;rintro e w5 ⟨rfl,dK⟩;obtain⟨fL,yS,sW,ml⟩:=dW dK (uI.out.below dK) (jP.out.below dK) (Jy.out.below dK);have nP:=ah (aJ ey.out fL.out);clear dK x0 x1;obtain⟨x0,x1⟩:=yS.out.c2;by_cases hle:By*G<=P
   . have CK:D=G:=by
      have h1:G<=D:=by rw[<-HD.out];exact(Nat.le_div_iff_mul_le EJ.out).2 (by rw[Nat.mul_comm];exact hle)
      have h2:=QR.out;rw[HD.out]at h2;omega
     have wy:=ah CK;have lJ:=Lg hle;have JU:=ah hle;clear CK hle;obtain⟨c,hc⟩:=aB (dh (By*G) P);rw[hc]at lJ;rw[hc];clear hc;have af7:¬0<c:=by omega
     go_wp2_with fail;refine(DX b L at' (n+1) (gW-at') (dg R) P w1.heap.size 0 (n+1) (n+1) (By*G) w5 zo zo ml.out zo (λj _=>(EM.out j).symm) (sW.out.lim _ (Nat.le_refl _)) (yc rD.out (by first|exact nQ.out|exact AU.out)) ZS JU.out ux.out).mono ?_;rintro e w6 ⟨rfl,mN,rz⟩
     have qD:bB L (gg (dg R) at' (n+1) (dg (P-By*G)))=bB L (dg (R-By*G*WW^at')):=jN (λj _=>by
      have h:=Fl.out j;rw[HP.out,HD.out,wy.out]at h
      exact h)
     rw[qD]at mN;obtain⟨mU,tv⟩:=aL mN rz;clear mN rz qD;go_wp2;refine bodyPost_ret (v:=.int .u64 (D:Int)) (by have hh:=wy.out;simp[results,Tryz.results178,go_sem,hh]) rfl ⟨rfl,by rw[wy.out];exact mU.out,Below.thenGrown nP.out tv.out⟩
   . have lJ:=Lf (a:=By*G) (b:=P) zo;have hDl:P/By<G:=by
      rcases Nat.lt_or_ge (P/By) G with h|h
      . exact h
      . exact absurd (Nat.le_trans (Nat.mul_le_mul_left By h) (Nat.mul_div_le _ _)) hle
     have AV:=ah hDl;have AU:Hid (D<WW):=by have h1:=nQ.out;have h2:=AV.out;rw[HD.out]at h2;exact Nat.lt_trans h2 h1
     clear hDl hle;rw[lJ];clear lJ;go_wp2_with fail;refine(WL (some ⟨b,0,none⟩) L gW b2 o2 n cap2 By b at' (gW-at') P G w5 zo xz zo (Hy.out.below nP.out) rD.out EJ.out (oW.out.below fL.out) ux.out AV.out nQ.out).mono ?_;rintro e w7 ⟨mb,rfl,⟨qM,lmb⟩,qb⟩;have IU:=nP.out.size;replace sW:=ah qM;replace ml:=ah (ml.out.below qb);replace nP:=ah (aJ nP.out qb);rw[HD.out]at sW;rw[HD.out];have Ps:=ml.out.lt;clear qM qb x0 x1;go_wp2_with fail;refine(DX b L at' (n+1) (gW-at') (dg R) P mb 0 (n+1) (n+1) (By*D) w7 zo zo ml.out zo (λj _=>(EM.out j).symm) (sW.out.lim _ (Nat.le_refl _)) (yc rD.out (by first|exact nQ.out|exact AU.out)) ZS (by rw[<-HD.out];exact Nat.mul_div_le _ _) ux.out).mono ?_;rintro e w6 ⟨rfl,mN,rz⟩
     have qD:bB L (gg (dg R) at' (n+1) (dg (P-By*D)))=bB L (dg (R-By*D*WW^at')):=jN (λj _=>by
      have h:=Fl.out j;rw[HP.out,HD.out]at h
      exact h)
     rw[qD]at mN;obtain⟨mU,tv⟩:=aL mN rz;clear mN rz qD;go_wp2;refine bodyPost_ret (results_tmp rfl _ _ _) rfl ⟨rfl,mU.out,Below.thenGrown nP.out tv.out⟩
 . have bj:¬(top:Int)<(b1:Int):=by omega
   have uR:=Qf.out;rw[if_neg hlt,jr]at uR;have afB:18446744073709551615=G:=uR;subst afB;have nQ:Hid (18446744073709551615<WW):=by show _<_;rw[jr];decide
   clear uR;have Pw:=Hb.out.size;have lx:=Hx.out.lt;obtain⟨W2,hW2⟩:=aB (W.alloc (.cells (bB (n+1) λ_=>0).toArray 142));have hb2:Bw W W2:=by rw[<-hW2];exact zl
   have ft:Hid (ak W2 W.heap.size 142 (bB (n+1) λ_=>0)):=by rw[<-hW2];exact ak.new _ _ _
   obtain⟨gj,qo⟩:=aL (aJ Hb.out hb2) (Hx.out.below hb2);clear hb2;obtain⟨y0,y1⟩:=qo.out.c2;go_wp2_with fail;refine(Ik W.heap.size (n+1) 0 (n+1) (n+1) (λ_=>0) 0 b2 o2 n cap2 By 18446744073709551615 W2 zo zo ft.out zo (λj _=>by unfold dg;rw[Nat.zero_div];rfl) (Hy.out.below gj.out) rD.out zo nQ.out).mono ?_;rintro e w3 ⟨rfl,qB,qg⟩
   have eB:bB (n+1) (gg (λ_=>0) 0 (n+1) (dg (0+By*18446744073709551615)))=bB (n+1) (dg (By*18446744073709551615)):=jN (λj hj=>by
    have:=Eg (λ_=>0) 0 (n+1) (dg (0+By*18446744073709551615)) j hj
    simpa only[Nat.zero_add]using this)
   rw[eB]at qB;have jP:=ah qB;have qJ:=yc rD.out nQ.out;have vw:=ja qJ;obtain⟨Bc,uI⟩:=aL qJ (qo.out.grown qg (λh=>by have:=Option.some.inj h;omega));have oW:Hid (dS w3 b at' (n+1) P):=(Fg.out.below gj.out).grown qg (λh=>by have:=Option.some.inj h;omega);obtain⟨Jy,ey⟩:=aL ((Qy.out.below gj.out).grown qg (λh=>by have:=Option.some.inj h;omega)) (gj.out.grown qg (by have:=gj.out.size;omega) (λj e=>by have:=Option.some.inj e;omega));clear qB qg eB qJ x0 x1 y0 y1;obtain⟨x0,x1⟩:=uI.out.c2;go_wp2_with fail;refine(kI W.heap.size 0 (n+1) (n+1) (By*18446744073709551615) w3 zo (Nat.le_refl _) (jP.out.lim _ (Nat.le_refl _)) Bc.out).mono ?_;rintro e w4 ⟨rfl,rfl⟩;go_wp2_with fail;refine(xX W.heap.size 0 (ln (By*18446744073709551615)) (n+1) (By*18446744073709551615) b at' (n+1) (gW-at') P w3 zo vw (jP.out.lim _ vw) (eK _) zo zo oW.out ux.out).mono ?_;rintro e w5 ⟨rfl,dK⟩;obtain⟨fL,yS,sW,ml⟩:=dW dK (uI.out.below dK) (jP.out.below dK) (Jy.out.below dK);have nP:=ah (aJ ey.out fL.out);clear dK x0 x1;obtain⟨x0,x1⟩:=yS.out.c2;by_cases hle:By*18446744073709551615<=P
   . have CK:D=18446744073709551615:=by
      have h1:18446744073709551615<=D:=by rw[<-HD.out];exact(Nat.le_div_iff_mul_le EJ.out).2 (by rw[Nat.mul_comm];exact hle)
      have h2:=QR.out;rw[HD.out]at h2;omega
     have wy:=ah CK;have lJ:=Lg hle;have JU:=ah hle;clear CK hle;obtain⟨c,hc⟩:=aB (dh (By*18446744073709551615) P);rw[hc]at lJ;rw[hc];clear hc;have af7:¬0<c:=by omega
     go_wp2_with fail;refine(DX b L at' (n+1) (gW-at') (dg R) P W.heap.size 0 (n+1) (n+1) (By*18446744073709551615) w5 zo zo ml.out zo (λj _=>(EM.out j).symm) (sW.out.lim _ (Nat.le_refl _)) (yc rD.out (by first|exact nQ.out|exact AU.out)) ZS JU.out ux.out).mono ?_;rintro e w6 ⟨rfl,mN,rz⟩
     have qD:bB L (gg (dg R) at' (n+1) (dg (P-By*18446744073709551615)))=bB L (dg (R-By*18446744073709551615*WW^at')):=jN (λj _=>by
      have h:=Fl.out j;rw[HP.out,HD.out,wy.out]at h
      exact h)
     rw[qD]at mN;obtain⟨mU,tv⟩:=aL mN rz;clear mN rz qD;go_wp2;refine bodyPost_ret (v:=.int .u64 (D:Int)) (by have hh:=wy.out;simp[results,Tryz.results178,go_sem,hh]) rfl ⟨rfl,by rw[wy.out];exact mU.out,Below.thenGrown nP.out tv.out⟩
   . have lJ:=Lf (a:=By*18446744073709551615) (b:=P) zo;have hDl:P/By<18446744073709551615:=by
      rcases Nat.lt_or_ge (P/By) 18446744073709551615 with h|h
      . exact h
      . exact absurd (Nat.le_trans (Nat.mul_le_mul_left By h) (Nat.mul_div_le _ _)) hle
     have AV:=ah hDl;have AU:Hid (D<WW):=by have h1:=nQ.out;have h2:=AV.out;rw[HD.out]at h2;exact Nat.lt_trans h2 h1
     clear hDl hle;rw[lJ];clear lJ;go_wp2_with fail;refine(WL (some ⟨b,0,none⟩) L gW b2 o2 n cap2 By b at' (gW-at') P 18446744073709551615 w5 zo xz zo (Hy.out.below nP.out) rD.out EJ.out (oW.out.below fL.out) ux.out AV.out nQ.out).mono ?_;rintro e w7 ⟨mb,rfl,⟨qM,lmb⟩,qb⟩;have IU:=nP.out.size;replace sW:=ah qM;replace ml:=ah (ml.out.below qb);replace nP:=ah (aJ nP.out qb);rw[HD.out]at sW;rw[HD.out];have Ps:=ml.out.lt;clear qM qb x0 x1;go_wp2_with fail;refine(DX b L at' (n+1) (gW-at') (dg R) P mb 0 (n+1) (n+1) (By*D) w7 zo zo ml.out zo (λj _=>(EM.out j).symm) (sW.out.lim _ (Nat.le_refl _)) (yc rD.out (by first|exact nQ.out|exact AU.out)) ZS (by rw[<-HD.out];exact Nat.mul_div_le _ _) ux.out).mono ?_;rintro e w6 ⟨rfl,mN,rz⟩
     have qD:bB L (gg (dg R) at' (n+1) (dg (P-By*D)))=bB L (dg (R-By*D*WW^at')):=jN (λj _=>by
      have h:=Fl.out j;rw[HP.out,HD.out]at h
      exact h)
     rw[qD]at mN;obtain⟨mU,tv⟩:=aL mN rz;clear mN rz qD;go_wp2;refine bodyPost_ret (results_tmp rfl _ _ _) rfl ⟨rfl,mU.out,Below.thenGrown nP.out tv.out⟩
theorem Lr (X Y j:Nat):X% (Y*WW^(j+1))/WW^j/Y=dg (X/Y) j:=by unfold dg;rw[Nat.div_div_eq_div_mul,Nat.div_div_eq_div_mul,show Y*WW^(j+1)=WW^j*Y*WW by rw[Nat.pow_succ,<-Nat.mul_assoc,Nat.mul_comm Y],Nat.mod_mul_right_div_self,Nat.mul_comm Y]
theorem aeC (X Y j:Nat):X% (Y*WW^(j+1))-Y* (X% (Y*WW^(j+1))/WW^j/Y) *WW^j=X% (Y*WW^j):=by
 rw[Lr];have e:Y*WW^(j+1)=Y*WW^j*WW:=by rw[Nat.pow_succ,<-Nat.mul_assoc]
 have e2:dg (X/Y) j=X/(Y*WW^j)%WW:=by unfold dg;rw[Nat.div_div_eq_div_mul]
 rw[e,Nat.mod_mul,e2];have e3:Y* (X/(Y*WW^j)%WW) *WW^j=Y*WW^j* (X/(Y*WW^j)%WW):=by grind
 rw[e3];omega
theorem aiJ {Y:Nat}(h:0<Y):∃s,s<64/\s=64-bA (dg Y (ln Y-1))/\Y*2^s<WW^ln Y/\9223372036854775808<=dg (Y*2^s) (ln Y-1)/\ln (Y*2^s)=ln Y/\0<bA (dg Y (ln Y-1))/\bA (dg Y (ln Y-1))<=64:=by
 have hl:=Ih h;obtain⟨k,hk⟩:∃k,ln Y=k+1:=⟨ln Y-1,by omega⟩;obtain⟨h1,h2⟩:=WU hk;obtain⟨t1,t2,t3⟩:=Sr Y k h1 h2;rw[hk,Nat.add_sub_cancel];obtain⟨B,hB⟩:=aB (bA (dg Y k));rw[hB]at t1 t2 t3⊢;have h3:=pk Y;rw[t1]at h3;have e1:WW^(k+1)=2^(64*k+64):=by rw[kG];congr 1
 have e2:(2:Nat)^(64*k+64)=2^(64*k+B) *2^(64-B):=by rw[<-Nat.pow_add];congr 1;omega
 have hlt:Y*2^(64-B)<WW^(k+1):=by rw[e1,e2];exact Nat.mul_lt_mul_of_pos_right h3 (Nat.pow_pos zd)
 have hge:2^(64*k+B-1)<=Y:=by
  rcases Nat.lt_or_ge Y (2^(64*k+B-1))with h4|h4
  . have:=gG h4;omega
  . exact h4
 have UV:9223372036854775808*WW^k<=Y*2^(64-B):=by
  have e3:9223372036854775808*WW^k=2^(64*k+B-1) *2^(64-B):=by rw[kG,<-Nat.pow_add,show 64*k+B-1+(64-B)=63+64*k by omega,Nat.pow_add]
  rw[e3];exact Nat.mul_le_mul_right _ hge
 refine⟨64-B,by omega,rfl,hlt,?_,?_,t3,t2⟩
 . unfold dg;have h5:9223372036854775808<=Y*2^(64-B)/WW^k:=(Nat.le_div_iff_mul_le (dY k)).2 UV;have h6:Y*2^(64-B)/WW^k<WW:=by refine Nat.div_lt_of_lt_mul ?_;rw[Nat.pow_succ]at hlt;exact hlt
   rw[Nat.mod_eq_of_lt h6];exact h5
 . refine WT hlt (Nat.le_trans ?_ UV);exact Nat.le_mul_of_pos_left _ zd
theorem aea (b o n cap v:Nat)(w:World)(hm:n<=1099511627776)(hcap:n<=cap)(hc:dS w b o n v)(hv:v<WW^n):
 Calls Tryz.prog 165 #[.slice (some ⟨b,o,none⟩) n cap] w λe w'=>e=.returned (.slice (some ⟨b,o,none⟩) (ln v) cap)/\Bw w w':=by
 refine(kI b o n cap v w hm hcap hc hv).mono ?_;rintro e w' ⟨he,rfl⟩;exact⟨he,Below.refl _ _⟩
theorem aeF (b m cap v n:Nat)(w:World)(hm:m<=549755813888)(hcap:m<=cap)(hn:n<64)(hx:dS w b 0 m v)(hv:v<WW^m):
 Calls Tryz.prog 167 #[.slice (some ⟨b,0,none⟩) m cap,.int .i64 (n:Int)] w λe w'=>∃a k c,e=.returned (.slice a k c)/\(yT w' a k (v/2^n)/\k<=c/\k<=549755813888/\v/2^n<WW^k)/\Bw w w':=by
 rcases Nat.eq_zero_or_pos m with h|h
 . subst h;have hv0:v=0:=by simpa using hv
   subst hv0;refine(SV (some ⟨b,0,none⟩) 0 cap n w zo zo zo).mono ?_;rintro e w' ⟨he,rfl⟩;exact⟨none,0,0,he,⟨λh=>absurd h zo,Nat.le_refl _,by omega,by rw[Nat.zero_div];exact dY 0⟩,Below.refl _ _⟩
 . have h64:n/64=0:=by omega
   refine(SU b 0 m cap v n w hm hcap zo hx hv zo).mono ?_;rintro e w' ⟨he,hB,hb,hle⟩;exact⟨_,_,_,he,⟨λ_=>⟨_,_,rfl,hB.lim _ hle⟩,hle,by omega,eK _⟩,hb⟩
theorem aiy (l m:List UInt8)(w:World)(hl:l.length<=68719476736)(hm:m.length<=68719476736)(hm0:0<nv m)(hle:nv m<=nv l):
 Calls Tryz.prog 156 #[.string (bs l),.string (bs m)] w λe w'=>e=.returned (.tuple #[.string (bs (nt (nv l/nv m))),.string (bs (nt (nv l%nv m))),.bool true])/\Bw w w':=by
 obtain⟨X,hX⟩:=aB (nv l);obtain⟨Y,hY⟩:=aB (nv m);have h1:=λW=>lS l W zo;have h2:=λW=>lS m W zo;rw[hX]at h1 hle⊢;rw[hY]at h2 hle hm0⊢;obtain⟨s,hs,VT,Gq,HJ,GM,UB,hbl⟩:=aiJ hm0;have Uk:0<X:=by omega
 have hlx:=Ih Uk;have Dn:=Ih hm0;obtain⟨lx,xG⟩:=aB (ln X);obtain⟨ly,xH⟩:=aB (ln Y);have pC:=eK X;have tP:=eK Y;rw[xG]at h1 hlx pC;rw[xH]at h2 Dn tP Gq HJ GM VT UB hbl;obtain⟨cx,kd⟩:=aB ((l.length+7)/8);obtain⟨cy,vh⟩:=aB ((m.length+7)/8);rw[kd]at h1;rw[vh]at h2;have GN:lx<=cx:=by rw[<-xG,<-kd,<-hX];exact ja (Fv l)
 have GP:ly<=cy:=by rw[<-xH,<-vh,<-hY];exact ja (Fv m)
 have af8:cx<=8589934593:=by omega
 have Gx:cy<=8589934593:=by omega
 have lJ:¬dh X Y<0:=by unfold dh;rw[if_neg zo];split<;>omega
 have Gz:X*2^s/(Y*2^s)=X/Y:=Nat.mul_div_mul_right _ _ (Nat.pow_pos zd);have hdr:X*2^s% (Y*2^s)=X%Y*2^s:=Nat.mul_mod_mul_right _ _ _;have fD:X*2^s<WW^(lx+1):=by rw[Nat.pow_succ];exact Nat.mul_lt_mul'' pC (by rw[kF];exact Nat.pow_lt_pow_right zd hs)
 have Vp:=ja fD;obtain⟨X',Mi⟩:=aB (X*2^s);obtain⟨Y',Mm⟩:=aB (Y*2^s);have Ia:=λb W h=>PF b 0 lx cx X s W zo zo h pC;have Ns:=λb W h=>PF b 0 ly cy Y s W zo zo h tP;rw[Mi]at Gz hdr fD Vp;rw[Mm]at Gz hdr Gq HJ GM;simp only[Mi,show s/64=0 by omega,Nat.add_zero]at Ia;simp only[Mm,show s/64=0 by omega,Nat.add_zero,GM]at Ns;obtain⟨lX,GK⟩:=aB (ln X');rw[GK]at Vp;simp only[GK]at Ia;have Mk:X'<WW^lX:=by rw[<-GK];exact eK _
 have Mv:=λb W h=>Lh (some ⟨b,0,none⟩) lX (lx+1) X' ((lx:Int)+2) W zo zo zo h Mk;rw[show max ((lx:Int)+2).toNat lX=lx+2 by omega]at Mv;have Dp:∀W,Calls Tryz.prog 177 #[.int .u64 (dg Y (ly-1):Int)] W λe w'=>e=.returned (.int .i64 (s:Int))/\W=w':=λW=>by have:=NQ (dg Y (ly-1)) W (ju _ _);rw[show(64-(bA (dg Y (ly-1)):Int))=(s:Int)by omega]at this;exact this
 have mJ:ly<=lx:=by
  have h3:¬lx<ly:=λh3=>by have:=NJ (v:=X) (u:=Y) (by rw[xG,xH];exact h3);omega
  omega
 have hmk:=ya ((lx:Int)+2-ly) (lx+2-ly) zo zo;obtain⟨H1,H2,abH,abI,Hcp,JW,EQ,Jr,ZQ,Ch,Hdq,td⟩:=fR h1 h2 Ia Ns Mv Dp pC tP Gq HJ Gz hdr;obtain⟨amq,uz,Hm0⟩:=cL Mk fD hm0;clear h1 h2 Ia Ns Mv Dp pC tP Gq HJ Gz hdr Mk fD hX hY VT xG xH kd vh Mi Mm GK GM hle Uk hm0 UB hbl;go_enter Tryz.func156,Tryz.ntmps156;go_wp2_with fail;refine(H1.out w).mono ?_;rintro e w1 ⟨rfl,bV,hb1,fI⟩;obtain⟨eG,bQ⟩:=aL bV hb1;clear bV hb1;go_wp2_with fail;refine(H2.out w1).mono ?_;rintro e w2 ⟨rfl,eJ,hb2,zV⟩;obtain⟨ft,bP⟩:=aL eJ (aJ bQ.out hb2);replace eG:=ah (eG.out.below hb2);have s1:=eG.out.lt;have s2:=ft.out.lt;clear eJ hb2;have agt:((ly:Int)==0)=false:=by simp;omega
 go_wp2_with fail;refine(xX w.heap.size 0 lx cx X w1.heap.size 0 ly cy Y w2 zo fI (eG.out.lim _ fI) EQ.out zo zV (ft.out.lim _ zV) Jr.out).mono ?_;rintro e w3 ⟨rfl,hb3⟩;replace eG:=ah (eG.out.below hb3);replace ft:=ah (ft.out.below hb3);have ey:=ah (aJ bP.out hb3);clear hb3;obtain⟨c,hc⟩:=aB (dh X Y);rw[hc]at lJ⊢;clear hc;have hdec:decide (c<0)=false:=by simp;omega
 have i1:=DV ly cy (ly-1) ((ly:Int)-1) (rfl:(some ⟨w1.heap.size,0,none⟩:Option Addr)=_) zo zo;rw[Nat.mul_one,Nat.zero_add]at i1;have cY:w3.cell? ⟨w1.heap.size,ly-1,none⟩=some (.int .u64 (dg Y (ly-1):Int)):=by rw[ft.out.cell,gD _ _ _ zo]
 go_wp2_with fail;refine(JW.out w3).mono ?_;rintro e w4 ⟨rfl,rfl⟩;clear cY i1;go_wp2_with fail;refine(abH.out w.heap.size w3 (eG.out.lim _ fI)).mono ?_;rintro e w4 ⟨rfl,qB,qb,qle⟩;have Jd:=ah qB;replace ft:=ah (ft.out.below qb);have jC:=ah (aJ ey.out qb);have s4:=Jd.out.lt;clear qB qb;go_wp2_with fail;refine(Hcp.out w3.heap.size w4 (λ_=>⟨_,_,rfl,Jd.out.lim _ zo⟩)).mono ?_;rintro e w5 ⟨rfl,qB,qb⟩;have mg:=ah qB;replace ft:=ah (ft.out.below qb);have fL:=ah (aJ jC.out qb);have s5:=mg.out.lt;clear qB qb;go_wp2_with fail;refine(abI.out w1.heap.size w5 (ft.out.lim _ zV)).mono ?_;rintro e w6 ⟨rfl,qB,qb,ao1⟩;have mU:=ah qB;replace mg:=ah (mg.out.below qb);have Jw:=ah (aJ fL.out qb);have s6:=mU.out.lt;have Yn:=mg.out.lt;have q4:=jC.out.size;clear qB qb eG ft Jd bQ bP ey jC fL;obtain⟨M,hM⟩:=aB (lx+2-ly);rw[hM]at hmk;obtain⟨lB,hlB⟩:=aB w4.heap.size;obtain⟨yB,Wt⟩:=aB w5.heap.size;rw[hlB]at mg s5 Yn q4⊢;rw[Wt]at mU s6 s5⊢;obtain⟨W7,Gp⟩:=aB (w6.alloc (.cells #[.slice (some ⟨lB,0,none⟩) (lx+2) (lx+2),.slice (some ⟨yB,0,none⟩) ly (ly+1)] 198));have jy:Bw w6 W7:=by rw[<-Gp];exact zl
 have JF:Hid (ak W7 w6.heap.size 198 [.slice (some ⟨lB,0,none⟩) (lx+2) (lx+2),.slice (some ⟨yB,0,none⟩) ly (ly+1)]):=by rw[<-Gp];exact ak.new _ _ _
 have s7:W7.heap.size=w6.heap.size+1:=by rw[<-Gp];simp
 obtain⟨W8,Mg⟩:=aB (W7.alloc (.cells (bB M λ_=>0).toArray 142));have gY:Bw W7 W8:=by rw[<-Mg];exact zl
 have Ho:Hid (ak W8 W7.heap.size 142 (bB M λ_=>0)):=by rw[<-Mg];exact ak.new _ _ _
 have Hd:=ah (JF.out.below gY);replace mg:=ah ((mg.out.below jy).below gY);replace mU:=ah ((mU.out.below jy).below gY);have iV:=ah (aJ (aJ Jw.out jy) gY);have IU:=Jw.out.size;have S7:=ah s7;clear jy gY Jw hlB Wt s7;obtain⟨d0,d1⟩:=JF.out.c2;go_wp2_with fail;have QW:Hid (dS W8 yB 0 ly Y'):=mU.out.lim _ zo;have CO:M+ly=lx+2:=by omega
 have Mj:X'<Y'*WW^M:=by have h1:WW^(ly-1)<=Y':=YI (by have:=Ch.out;omega);have h2:WW^(ly-1) *WW^M<=Y'*WW^M:=Nat.mul_le_mul_right _ h1;rw[<-Nat.pow_add,show ly-1+M=lx+1 by omega]at h2;exact Nat.lt_of_lt_of_le uz.out h2
 have Un:0<Y':=by
  rcases Nat.eq_zero_or_pos Y' with h|h
  . have:=Ch.out;rw[h]at this;unfold dg at this;simp at this
  . exact h
 have TZ:X'/Y'<WW^M:=Nat.div_lt_of_lt_mul Mj;obtain⟨ZP,ZR,ZG⟩:=cL Mj Un TZ;clear Mj Un TZ d0 d1 Gp Mg hmk hM;obtain⟨oB,MW⟩:=aB W7.heap.size;rw[MW]at Ho⊢;have VC:oB=w6.heap.size+1:=by rw[<-MW];exact S7.out
 obtain⟨dB,UG⟩:=aB w6.heap.size;rw[UG]at Hd VC s6 Yn IU⊢;have anA:dB<oB:=by omega
 clear MW UG S7 JF VC;go_loopw[12] (λx wr=>∃(k:Nat) (i:Int),k<=M/\i=(k:Int)-1/\x=.int .i64 i/\ak wr dB 198 [.slice (some ⟨lB,0,none⟩) (lx+2) (lx+2),.slice (some ⟨yB,0,none⟩) ly (ly+1)]/\ak wr lB 142 (bB (lx+2) (dg (X'% (Y'*WW^k))))/\ak wr oB 142 (bB M λj=>if k<=j then dg (X'/Y') j else 0)/\dS wr yB 0 ly Y'/\Bw w wr) (λx _=>(intOf x+1).toNat);case atStart=>
  refine⟨M,_,Nat.le_refl _,rfl,rfl,Hd.out,?_,?_,QW.out,iV.out⟩
  . rw[Nat.mod_eq_of_lt ZP.out];exact mg.out
  . have e:bB M (λj=>if M<=j then dg (X'/Y') j else 0)=bB M λ_=>0:=jN (λj hj=>by rw[if_neg zo]);rw[e];exact Ho.out
 case round=>
  clear Hd mg Ho QW iV mU;obtain⟨k,i,hk,hi,rfl,pd,pl,po,py,pb⟩:=hrel;obtain⟨Hd,Hl,Ho,Hy,Hb⟩:=fg pd pl po py pb;clear pd pl po py pb;obtain⟨d0,d1⟩:=Hd.out.c2;by_cases kP:0<k
  . obtain⟨j,rfl⟩:∃j,k=j+1:=⟨k-1,by omega⟩;obtain rfl:i=(j:Int):=by omega
    clear hi;go_wp2_with fail;refine(aey lB (lx+2) (lx+2) (X'% (Y'*WW^(j+1))) yB 0 ly (ly+1) Y' j wr zo (Nat.le_refl _) Dn zo Hl.out Hy.out ZQ.out Ch.out (Nat.mod_lt _ (Nat.mul_pos ZR.out (dY _))) zo zo).mono ?_;rintro e w9 ⟨rfl,qB,qg⟩;rw[Lr]at qB⊢;have hrest:=aeC X' Y' j;rw[Lr]at hrest;rw[hrest]at qB;have kn:∀b,b≠lB->some b≠some lB:=λb h e=>h (Option.some.inj e);obtain⟨Hl9,QG,Ke,Hy9,ZZ⟩:=fg qB (Hd.out.grown qg (kn _ zo)) (Ho.out.grown qg (kn _ zo)) (Hy.out.grown qg (kn _ zo)) (Hb.out.grown qg Hb.out.size (λb e=>by have:=Option.some.inj e;omega));obtain⟨q,hq⟩:=aB (dg (X'/Y') j);rw[hq];have Hq:=ah hq;have i2:=DV M M j (j:Int) (rfl:(some ⟨oB,0,none⟩:Option Addr)=_) zo rfl;rw[Nat.mul_one,Nat.zero_add]at i2;have co:w9.cell? ⟨oB,j,none⟩=some (.int .u64 ((if j+1<=j then dg (X'/Y') j else 0:Nat):Int)):=by rw[Ke.out.cell,gD _ _ _ zo]
    have fo:w9.frozen? ⟨oB,j,none⟩=false:=Ke.out.free j;clear qB qg hrest hq d0 d1;obtain⟨d0,d1⟩:=QG.out.c2;go_wp2;go_roundw;case rel=>
     refine⟨j,(j:Int)-1,by omega,rfl,by go_num,QG.out.so oB j zo _,Hl9.out.so oB j zo _,?_,?_,ZZ.out.sc oB j zo _⟩
     . have h:=Ke.out.set j (.int .u64 (q:Int));rw[AJ]at h
       have e:bB M (λi=>if i=j then q else if j+1<=i then dg (X'/Y') i else 0)=bB M (λi=>if j<=i then dg (X'/Y') i else 0):=jN (λi hi=>by
        by_cases h1:i=j
        . subst h1;rw[if_pos rfl,if_pos (Nat.le_refl _)];exact Hq.out.symm
        . rw[if_neg h1];by_cases h2:j+1<=i
          . rw[if_pos h2,if_pos zo]
          . rw[if_neg h2,if_neg zo])
       rw[e]at h;exact h
     . exact λt ht=>fC zp (Hy9.out t ht)
    case measure=>simp[intOf]
  . obtain rfl:k=0:=by omega
    obtain rfl:i= -1:=by omega
    have HL:Hid (dS wr oB 0 M (X'/Y')):=λt ht=>by rw[Ho.out.cell,Nat.zero_add,gD _ _ _ ht,if_pos (Nat.zero_le _)]
    have hR:X'% (Y'*WW^0)=X'%Y':=by rw[Nat.pow_zero,Nat.mul_one]
    rw[hR]at Hl;have Qr:Hid (X'%Y'<WW^(lx+2)):=Nat.lt_of_le_of_lt (Nat.mod_le _ _) (Nat.lt_of_lt_of_le uz.out (Nat.pow_le_pow_right js zo));have Vo:=ja Qr.out;have HR:=ah (show X'%Y'/2^s=X%Y by rw[td.out];exact Nat.mul_div_cancel _ (Nat.pow_pos zd));clear hi hR;go_wp2_with fail;have ml:=Hb;clear Hb;have Hb:Hid (Bw wr wr):=Below.refl _ _;obtain⟨d0,d1⟩:=Hd.out.c2;refine bJ (λw'=>w'.cell? ⟨dB,0,none⟩=some (.slice (some ⟨lB,0,none⟩) (lx+2) (lx+2))) (λi=>Nat.blt i 100000) [(0,true),(2,true),(3,true),(5,true),(1,false),(4,false),(6,false),(7,false),(8,true),(9,true),(10,true)] zk zk rfl zk zc d0 ?_;iterate 4 (refine pT rfl rfl ?_;try simp only[UU])
    refine aI rfl rfl (λK hK=>?_);go_simp;with_reducible refine(wm oB 0 M M (X'/Y') _ zo (Nat.le_refl _) (HL.out.below (by first|exact Hb.out|exact Below.drew Hb.out)) ZG.out).mono ?_
    rintro e y1 ⟨rfl,hq⟩;have ae:Bw wr y1:=by first|exact hq|exact aM hq
    clear d0 d1;replace Hd:=kB Hd ae;obtain⟨d0,d1⟩:=Hd.out.c2;replace Hb:=au Hb ae;clear ae;refine hK _ _ (λ_=>d0) ?_;clear hK K;try simp only[UU]
    refine aI rfl rfl (λK hK=>?_);go_simp;with_reducible refine(aea lB 0 (lx+2) (lx+2) (X'%Y') _ zo (Nat.le_refl _) ((Hl.out.lim _ (Nat.le_refl _)).below (by first|exact Hb.out|exact Below.drew Hb.out)) Qr.out).mono ?_
    rintro e y2 ⟨rfl,hq⟩;have ae:Bw y1 y2:=by first|exact hq|exact aM hq
    clear d0 d1;replace Hd:=kB Hd ae;obtain⟨d0,d1⟩:=Hd.out.c2;replace Hb:=au Hb ae;clear ae;refine hK _ _ (λ_=>d0) ?_;clear hK K;try simp only[UU]
    refine aI rfl rfl (λK hK=>?_);go_simp;with_reducible refine(aeF lB (ln (X'%Y')) (lx+2) (X'%Y') s _ zo Vo hs ((Hl.out.lim _ Vo).below (by first|exact Hb.out|exact Below.drew Hb.out)) (eK _)).mono ?_
    rintro e y3 ⟨a,k,c2,rfl,⟨qL,qc,qk,qv⟩,hq⟩;have ae:Bw y2 y3:=by first|exact hq|exact aM hq
    clear d0 d1;replace Hd:=kB Hd ae;obtain⟨d0,d1⟩:=Hd.out.c2;replace Hb:=au Hb ae;clear ae;refine hK _ _ (λ_=>d0) ?_;clear hK K;try simp only[UU]
    refine aI rfl rfl (λK hK=>?_);go_simp;with_reducible refine(YG a k c2 (X'%Y'/2^s) _ zo qc qL qv).mono ?_
    rintro e y4 ⟨rfl,hq⟩;have ae:Bw y3 y4:=by first|exact hq|exact aM hq
    clear d0 d1;replace Hd:=kB Hd ae;obtain⟨d0,d1⟩:=Hd.out.c2;replace Hb:=au Hb ae;clear ae;refine hK _ _ (λ_=>d0) ?_;clear hK K;try simp only[UU]
    iterate 3 (refine pT rfl rfl ?_;try simp only[UU])
    simp only[aU];go_wp2;refine bodyPost_ret (v:=.tuple #[.string (bs (nt (X/Y))),.string (bs (nt (X%Y))),.bool true]) (by have h1:=Hdq.out;have h2:=HR.out;simp[results,Tryz.results156,go_sem,h1,h2]) rfl ⟨rfl,aJ ml.out Hb.out⟩
section
variable {P:Program} {md:Region.Mode} {ops:Array Oper} {Q:Exit->Act->World->Prop} {S:World->Prop} {J:Nat->Bool}
def Cr (md:Region.Mode)(ops:Array Oper)(J:Nat->Bool)(es:List Nat)(D:Nat->List Nat)(last:List (Nat×Bool)):Nat->Array Bool->Bool
 |0,listed=>es.all (λk=>listed.getD k false)&&sL md ops J last listed
 |n+1,listed=>listed.size==ops.size&& !(Region.ready md ops listed).isEmpty&&(Region.ready md ops listed).all λk=>es.contains k&& !(listed.getD k false)&&decide (k<listed.size)&&(D k).all (λd=>es.contains d&&listed.getD d false)&&Cr md ops J es D last n (listed.setIfInBounds k true)
def rN (es:List Nat)(listed:Array Bool)(i:Nat):Bool:=es.contains i&&listed.getD i false
theorem aeE {es:List Nat}{listed:Array Bool}{k:Nat}(hk:es.contains k=true)(hl:k<listed.size):rN es (listed.setIfInBounds k true)=λi=>i==k||rN es listed i:=by
 funext i
 unfold rN;by_cases h:i=k
 . subst h;simp only[beq_self_eq_true,Bool.true_or];rw[hk];simp[hl]
 . have h2:(i==k)=false:=by simpa using h
   rw[h2,Bool.false_or,getD_set_ne false (λe=>h e.symm)]
theorem alX (hs:Region.noSelect ops=true)(hQ:∀(o:Oper) c a v w,Q (.panic c) (a.put o.dst v) w->Q (.panic c) a w)(es:List Nat)(D:Nat->List Nat)(last:List (Nat×Bool))(I:(Nat->Bool)->Act->World->Prop)
 (h2:∀dn a w,I dn a w->S w) (h3:∀k∈es,∀dn a w,dn k=false->(∀d∈D k,dn d=true)->I dn a w->wpOp P ops Q k (I λi=>i==k||dn i) a w) (h4:∀dn a w,(∀k∈es,dn k=true)->I dn a w->aU P ops Q S J last a w) (n:Nat):
 ∀(listed:Array Bool) (a:Act) (w:World),Closed md ops listed->Cr md ops J es D last n listed=true->I (rN es listed) a w->sU P md ops Q S J (last.length+n) listed a w:=by
 induction n with
 |zero=>intro listed a w hc hok h;simp only[Cr,Bool.and_eq_true,List.all_eq_true]at hok;exact ED hs hQ last _ _ _ hc hok.2 (λ_=>h2 _ _ _ h) (h4 _ _ _ (λk hk=>by unfold rN;rw[hok.1 k hk];simpa using hk) h)
 | succ n ih=>
   intro listed a w hc hok h;simp only[Cr,Bool.and_eq_true,List.all_eq_true]at hok;obtain⟨⟨_,h5⟩,h6⟩:=hok;refine⟨λh0=>(by rw[h0]at h5;simp at h5),λk hk=>?_⟩;obtain⟨⟨⟨⟨q1,q2⟩,q3⟩,q4⟩,q5⟩:=h6 k hk;have q3':k<listed.size:=of_decide_eq_true q3;have hf:rN es listed k=false:=by unfold rN;rw[q1];simpa using q2
   refine wpOp_mono (λa1 w1 q=>⟨λ_=>h2 _ _ _ q,ih _ _ _ (hc.list hk) q5 ?_⟩) (h3 k (by simpa using q1) _ a w hf (λd hd=>by unfold rN;rw[Bool.and_eq_true];exact q4 d hd) h);rw[aeE q1 q3'];exact q
def Ei (md:Region.Mode)(ops:Array Oper)(J:Nat->Bool)(es:List Nat)(D:Nat->List Nat)(last:List (Nat×Bool)):List Nat->Array Bool->Bool
 |[],listed=>es.all (λk=>!(listed.getD k false))&&Cr md ops J es D last es.length listed
 |x::r,listed=>(Region.ready md ops listed).contains x&&Region.free md ops listed x&&waits md ops J x&&Ei md ops J es D last r (listed.setIfInBounds x true)
def alW (P:Program)(ops:Array Oper)(Q:Exit->Act->World->Prop)(S:World->Prop)(J:Nat->Bool)(es:List Nat)(D:Nat->List Nat)(last:List (Nat×Bool))(a:Act)(w:World):Prop:=
 ∃I:(Nat->Bool)->Act->World->Prop,I (λ_=>false) a w/\(∀dn a w,I dn a w->S w)/\(∀k∈es,∀dn a w,dn k=false->(∀d∈D k,dn d=true)->I dn a w->wpOp P ops Q k (I λi=>i==k||dn i) a w)/\∀dn a w,(∀k∈es,dn k=true)->I dn a w->aU P ops Q S J last a w
def AP (P:Program)(ops:Array Oper)(Q:Exit->Act->World->Prop)(S:World->Prop)(J:Nat->Bool)(es:List Nat)(D:Nat->List Nat)(last:List (Nat×Bool)):List Nat->Act->World->Prop
 |[],a,w=>alW P ops Q S J es D last a w
 |x::r,a,w=>∃o v,ops[x]?=some o/\YieldsIf P ops S o v a/\AP P ops Q S J es D last r (a.put o.dst v) w
theorem alY (hs:Region.noSelect ops=true)(hQ:∀(o:Oper) c a v w,Q (.panic c) (a.put o.dst v) w->Q (.panic c) a w)(es:List Nat)(D:Nat->List Nat)(last:List (Nat×Bool))(r:List Nat):
 ∀(listed:Array Bool) (a:Act) (w:World),Closed md ops listed->Ei md ops J es D last r listed=true->S w->AP P ops Q S J es D last r a w->sU P md ops Q S J (last.length+es.length+r.length) listed a w:=by
 induction r with
 | nil=>
   intro listed a w hc hok hS h;simp only[Ei,Bool.and_eq_true,List.all_eq_true]at hok;obtain⟨I,h1,h2,h3,h4⟩:=h;have e:rN es listed=λ_=>false:=by
    funext i
    unfold rN;by_cases hi:es.contains i=true
    . have:=hok.1 i (by simpa using hi);rw[hi];simpa using this
    . simp only[Bool.not_eq_true]at hi;rw[hi];rfl
   exact alX hs hQ es D last I h2 h3 h4 es.length listed a w hc hok.2 (by rw[e];exact h1)
 |cons x r ih=>intro listed a w hc hok hS h;simp only[Ei,Bool.and_eq_true]at hok;obtain⟨⟨⟨h1,h2⟩,h3⟩,h4⟩:=hok;obtain⟨o,v,ho,hy,h⟩:=h;exact EC ho (Region.noSelect_spec hs) (λc a w=>hQ o c a v w) h3 (last.length+es.length+r.length) listed a w hc h2 (by simpa using h1) hy hS (ih _ _ _ (hc.list (by simpa using h1)) h4 hS h)
theorem al4 {id:Nat}{a:Act}{w:World}(S:World->Prop)(J:Nat->Bool)(es:List Nat)(D:Nat->List Nat)(last:List (Nat×Bool))(r:List Nat)(hm:P.follows .mixedOrders=true)(hs:Region.noSelect ops=true)
 (hl:last.length+es.length+r.length=ops.size) (hok:Ei .any ops J es D last r (Array.replicate ops.size false)=true)
 (hQ:∀(o:Oper) c a v w,Q (.panic c) (a.put o.dst v) w->Q (.panic c) a w) (hS:S w.drew) (h:AP P ops Q S J es D last r a w.drew):(Code.region id ops true).wp P Q a w:=by
 refine wp_region_any hm (EE ops.size _ _ _ ?_ (S:=S) (J:=J));have:=alY (md:=.any) (S:=S) (J:=J) hs hQ es D last r (Array.replicate ops.size false) a w.drew (Closed.empty _) hok hS h;rw[hl]at this;exact this
theorem ajn {x:Nat}{es:List Nat}{D:Nat->List Nat}{last:List (Nat×Bool)}{r:List Nat}{o:Oper}{v:Value}{a:Act}{w:World}(ho:ops.toList[x]?=some o)(hw:Region.wanted o (yielded ops a.tmps)=true)
 (hy:∀w',S w'->(execOp a.eval o).run P w'=.ok (.value v) w') (h:AP P ops Q S J es D last r (a.put o.dst v) w):AP P ops Q S J es D last (x::r) a w:=
 ⟨o,v,by rw[<-Array.getElem?_toList];exact ho,.inl ⟨hw,hy⟩,h⟩
theorem ajm {es:List Nat}{D:Nat->List Nat}{last:List (Nat×Bool)}{a:Act}{w:World}(I:Act->(Nat->Bool)->Act->World->Prop)(h1:I a (λ_=>false) a w)(h2:∀dn a' w',I a dn a' w'->S w')
 (h3:∀k∈es,∀dn a' w',dn k=false->(∀d∈D k,dn d=true)->I a dn a' w'->wpOp P ops Q k (I a λi=>i==k||dn i) a' w') (h4:∀dn a' w',(∀k∈es,dn k=true)->I a dn a' w'->aU P ops Q S J last a' w'):AP P ops Q S J es D last [] a w:=
 ⟨I a,h1,h2,h3,h4⟩
theorem Ap {k:Nat}{o:Oper}{a:Act}{w:World}{R:Act->World->Prop}(ho:ops.toList[k]?=some o)(hw:Region.wanted o (yielded ops a.tmps)=true)(h:∀K:Act->World->Prop,(∀a' w',R a' w'->K a' w')->o.wp P a w K Q):wpOp P ops Q k R a w:=by rw[Array.getElem?_toList]at ho;unfold wpOp;simp only[ho,hw,if_true];exact .inl (h _ (λa' w' h=>h))
theorem Aw (a:Act)(k:Nat):a.put (some k) (a.tmps.getD k undef)=a:=by
 unfold Act.put;have:a.tmps.setIfInBounds k (a.tmps.getD k undef)=a.tmps:=by
  apply Array.ext
  . simp
  . intro i h1 h2;rw[Array.getElem_setIfInBounds];split
    . rename_i e;subst e;simp[h2]
    . rfl
 cases a
 simp only at this⊢;rw[this]
end
section
variable {P:Program} {md:Region.Mode} {ops:Array Oper} {Q:Exit->Act->World->Prop} {S:World->Prop} {J:Nat->Bool}
def solo (r:List Nat)(i:Nat)(b:Bool):Bool:=match r with
 |[k]=>k==i
 |_=>r.contains i&&b
def uj (md:Region.Mode)(ops:Array Oper)(J:Nat->Bool):List (Nat×Bool)->Array Bool->Bool
 |[],listed=>(Region.ready md ops listed).isEmpty
 | (i,true)::rest,listed=>solo (Region.ready md ops listed) i (Region.free md ops listed i&&waits md ops J i)&&uj md ops J rest (listed.setIfInBounds i true)
 | (i,false)::rest,listed=>Region.ready md ops listed==[i]&&(J i|| !rest.any (·.2))&&uj md ops J rest (listed.setIfInBounds i true)
theorem al0 (hs:Region.noSelect ops=true)(hQ:∀(o:Oper) c a v w,Q (.panic c) (a.put o.dst v) w->Q (.panic c) a w)(plan:List (Nat×Bool)):
 ∀(listed:Array Bool) (a:Act) (w:World),Closed md ops listed->uj md ops J plan listed=true->(plan.any (·.2)=true->S w)->aU P ops Q S J plan a w->sU P md ops Q S J plan.length listed a w:=by
 induction plan with
 |nil=>intro listed a w _ hok _ h;exact⟨List.isEmpty_iff.1 hok,h⟩
 | cons x rest ih=>
   obtain⟨i,b⟩:=x;intro listed a w hc hok hS h;cases b with
   | true=>
     simp only[uj,Bool.and_eq_true]at hok;obtain⟨h1,h4⟩:=hok;obtain⟨o,v,ho,hy,h⟩:=h;have hSw:S w:=hS zm;by_cases hr:Region.ready md ops listed=[i]
     . refine⟨λh0=>(by rw[hr]at h0;cases h0),λj hj=>?_⟩;rw[hr]at hj;obtain rfl:j=i:=by simpa using hj
       exact hy.wpOp ho hSw ⟨λ_=>hSw,ih _ _ _ (hc.list (by rw[hr];exact List.mem_singleton.2 rfl)) h4 (λ_=>hSw) h⟩
     . have h9:(Region.ready md ops listed).contains i=true/\(Region.free md ops listed i&&waits md ops J i)=true:=by
        unfold solo at h1;split at h1
        . rename_i k hk
          have:k=i:=by simpa using h1
          subst this;exact absurd hk hr
        . simpa[Bool.and_eq_true]using h1
       rw[Bool.and_eq_true]at h9;exact EC ho (Region.noSelect_spec hs) (λc a w=>hQ o c a v w) h9.2.2 rest.length listed a w hc h9.2.1 (by simpa using h9.1) hy hSw (ih _ _ _ (hc.list (by simpa using h9.1)) h4 (λ_=>hSw) h)
   | false=>
     simp only[uj,Bool.and_eq_true,beq_iff_eq]at hok;obtain⟨⟨h1,h2⟩,h3⟩:=hok;refine⟨λh0=>(by rw[h1]at h0;cases h0),λj hj=>?_⟩;rw[h1]at hj;obtain rfl:j=i:=by simpa using hj
     refine wpOp_mono (λa' w' h4=>⟨h4.1,ih _ _ _ (hc.list (by rw[h1];exact List.mem_singleton.2 rfl)) h3 (λtQ=>?_) h4.2⟩) h;rw[Bool.or_eq_true]at h2;rcases h2 with h2|h2
     . exact h4.1 h2
     . rw[tQ]at h2;cases h2
def uL (n:Nat)(listed:Array Bool)(m:Nat):Prop:=listed.size=n/\∀i,listed.getD i false=m.testBit i
def vZ (md:Region.Mode)(m:Nat):List Oper->Nat->List Nat
 |[],_=>[]
 |o::os,k=>bif !m.testBit k&&o.after.toList.all (λe=>!Region.binds md e||m.testBit e.on)then k::vZ md m os (k+1)else vZ md m os (k+1)
def Gb (md:Region.Mode)(ops:Array Oper)(m:Nat)(oi:Oper)(i:Nat):List Oper->Nat->Bool
 |[],_=>true
 |oj::os,j=>(j==i||m.testBit j|| (oj.after.toList.any (λe=>Region.binds md e&&e.on==i) ||oi.apart ops oj))&&Gb md ops m oi i os (j+1)
def LG (md:Region.Mode)(ops:Array Oper)(m i:Nat):Bool:=match ops[i]? with
 |none=>false
 |some oi=>Gb md ops m oi i ops.toList 0
def Au (md:Region.Mode)(ops:Array Oper)(J:Nat->Bool):List (Nat×Bool)->Nat->Bool
 |[],m=>(vZ md m ops.toList 0).isEmpty
 | (i,true)::rest,m=>solo (vZ md m ops.toList 0) i (LG md ops m i&&waits md ops J i)&&(Nat.blt i ops.size&&Au md ops J rest (m|||2^i))
 | (i,false)::rest,m=>vZ md m ops.toList 0==[i]&&(J i|| !rest.any (·.2))&&(Nat.blt i ops.size&&Au md ops J rest (m|||2^i))
theorem ajW (m:Nat):∀(os:List Oper) (k:Nat) (f:Nat->Bool),(∀j (hj:j<os.length),f (k+j)=(!m.testBit (k+j)&&os[j].after.toList.all (λe=>!Region.binds md e||m.testBit e.on)))->vZ md m os k=(List.range' k os.length).filter f:=by
 intro os;induction os with
 |nil=>intro k f _;rfl
 | cons o os ih=>
   intro k f h;have h0:=h 0 zm
   have h1:=ih (k+1) f (λj hj=>by
    have:=h (j+1) zi;rw[show k+(j+1)=k+1+j by omega]at this
    simpa using this)
   rw[Nat.add_zero]at h0;simp only[List.getElem_cons_zero]at h0;rw[List.length_cons,List.range'_succ,List.filter_cons];unfold vZ;rw[h1,h0];cases (!m.testBit k&&o.after.toList.all (λe=>!Region.binds md e||m.testBit e.on))<;>rfl
theorem afj (m:Nat)(oi:Oper)(i:Nat):∀(os:List Oper) (k:Nat) (f:Nat->Bool),(∀j (hj:j<os.length),f (k+j)=(k+j==i||m.testBit (k+j) || (os[j].after.toList.any (λe=>Region.binds md e&&e.on==i) ||oi.apart ops os[j])))->Gb md ops m oi i os k=(List.range' k os.length).all f:=by
 intro os;induction os with
 |nil=>intro k f _;rfl
 | cons o os ih=>
   intro k f h;have h0:=h 0 zm
   have h1:=ih (k+1) f (λj hj=>by
    have:=h (j+1) zi;rw[show k+(j+1)=k+1+j by omega]at this
    simpa using this)
   rw[Nat.add_zero]at h0;simp only[List.getElem_cons_zero]at h0;rw[List.length_cons,List.range'_succ,List.all_cons];unfold Gb;rw[h1,h0]
theorem uL.bit {n:Nat}{listed:Array Bool}{m i:Nat}(h:uL n listed m)(hi:i<n):listed.getD i true=m.testBit i:=by
 rw[<-h.2 i];have:i<listed.size:=by rw[h.1];exact hi
 simp[Array.getD,this]
theorem uL.set {n:Nat}{listed:Array Bool}{m i:Nat}(h:uL n listed m)(hi:i<n):uL n (listed.setIfInBounds i true) (m|||2^i):=by
 refine⟨by simp[h.1],λj=>?_⟩;rw[Nat.testBit_or,<-h.2 j,Nat.testBit_two_pow];by_cases hij:i=j
 . subst hij;have:i<listed.size:=by rw[h.1];exact hi
   simp[Array.getD,this]
 . rw[getD_set_ne false hij];simp[hij]
theorem OM {listed:Array Bool}{m:Nat}(h:uL ops.size listed m):Region.ready md ops listed=vZ md m ops.toList 0:=by
 rw[ajW m ops.toList 0 (λi=>!listed.getD i true&&((ops[i]?).map (·.after.all λe=>!Region.binds md e||listed.getD e.on false)).getD false)]
 . unfold Region.ready;rw[List.range_eq_range',Array.length_toList]
 . intro j hj;rw[Array.length_toList]at hj;rw[Nat.zero_add,h.bit hj,Array.getElem?_eq_getElem hj,Option.map_some,Option.getD_some,Array.getElem_toList,<-Array.all_toList];simp only[h.2]
theorem afk {listed:Array Bool}{m i:Nat}(h:uL ops.size listed m):Region.free md ops listed i=LG md ops m i:=by
 unfold Region.free LG;cases hi:ops[i]? with
 |none=>rfl
 | some oi=>
   simp only
   rw[afj m oi i ops.toList 0 (λj=>j==i||listed.getD j true||match ops[j]? with
    |some oj=>oj.after.any (λe=>Region.binds md e&&e.on==i) ||oi.apart ops oj
    |none=>true)]
   . rw[List.range_eq_range',Array.length_toList];rfl
   . intro j hj;rw[Array.length_toList]at hj;rw[Nat.zero_add,h.bit hj,Array.getElem?_eq_getElem hj,Array.getElem_toList];show(j==i||m.testBit j|| (ops[j].after.any (λe=>Region.binds md e&&e.on==i) ||oi.apart ops ops[j]))=_
     rw[<-Array.any_toList]
theorem ajo (plan:List (Nat×Bool)):∀(listed:Array Bool) (m:Nat),uL ops.size listed m->Au md ops J plan m=true->uj md ops J plan listed=true:=by
 induction plan with
 |nil=>intro listed m h hok;unfold uj;rw[OM h];exact hok
 | cons x rest ih=>
   obtain⟨i,b⟩:=x;intro listed m h hok;cases b with
   |true=>simp only[Au,Bool.and_eq_true]at hok;simp only[uj,Bool.and_eq_true];rw[OM h,afk h];exact⟨hok.1,ih _ _ (h.set (by simpa using hok.2.1)) hok.2.2⟩
   |false=>simp only[Au,Bool.and_eq_true]at hok;simp only[uj,Bool.and_eq_true];rw[OM h];exact⟨hok.1,ih _ _ (h.set (by simpa using hok.2.1)) hok.2.2⟩
theorem al5 {id:Nat}{a:Act}{w:World}(S:World->Prop)(J:Nat->Bool)(plan:List (Nat×Bool))(hm:P.follows .mixedOrders=true)(hs:Region.noSelect ops=true)
 (hl:plan.length=ops.size) (hok:Au .any ops J plan 0=true)
 (hQ:∀(o:Oper) c a v w,Q (.panic c) (a.put o.dst v) w->Q (.panic c) a w) (hS:S w.drew) (h:aU P ops Q S J plan a w.drew):(Code.region id ops true).wp P Q a w:=by
 refine wp_region_any hm (EE ops.size _ _ _ ?_ (S:=S) (J:=J))
 have:=al0 (md:=.any) (S:=S) (J:=J) hs hQ plan (Array.replicate ops.size false) a w.drew (Closed.empty _) (ajo plan _ 0 ⟨by simp,λi=>by rw[Nat.zero_testBit,Array.getD_eq_getD_getElem?,Array.getElem?_replicate];split<;>rfl⟩ hok) (λ_=>hS) h
 rw[hl]at this;exact this
end
end Go.Proofs.YtdaadlblknpipaaGreatDoor
