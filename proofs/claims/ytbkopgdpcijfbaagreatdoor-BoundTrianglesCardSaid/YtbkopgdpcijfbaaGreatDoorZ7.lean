/- A statement whose order is open,walked in one order: what only reads is taken first;S is asked behind each operation but the last ones (J),for which everything else waits. -/
import Derived.Test.YtbkopgdpcijfbaaGreatDoorZ6
import Derived.OrdersHeld
import Derived.Test.YtbkopgdpcijfbaaGreatDoorZ5
set_option linter.all false
set_option maxRecDepth 100000
set_option maxHeartbeats 16000000
namespace Go.Proofs.YtbkopgdpcijfbaaGreatDoor
open Go.RowKit
def U1 {α:Type}(l:List α)(i:Nat)(a:α):l.toArray.setIfInBounds i a=(l.set i a).toArray:=by simp
def U2 {α:Type}(x:α)(l:List α)(a:α):(x::l).set 0 a=a::l:=rfl
def U3 {α:Type}(x:α)(l:List α)(i:Nat)(a:α):(x::l).set (i+1) a=x::l.set i a:=rfl
section
variable {P:Program} {md:Region.Mode} {ops:Array Oper} {Q:Exit->Act->World->Prop} {S:World->Prop} {J:Nat->Bool}
def sU (P:Program)(md:Region.Mode)(ops:Array Oper)(Q:Exit->Act->World->Prop)(S:World->Prop)(J:Nat->Bool):Nat->Array Bool->Act->World->Prop
 |0,listed,a,w=>Region.ready md ops listed=[]/\Q .normal a w
 | fuel+1,listed,a,w=>
   (Region.ready md ops listed=[]->Q .normal a w)/\
   ∀i∈Region.ready md ops listed,wpOp P ops Q i (λa' w'=>(J i=true->S w')/\sU P md ops Q S J fuel (listed.setIfInBounds i true) a' w') a w
def Lc (fuel:Nat):∀(listed:Array Bool) (a:Act) (w:World),sU P md ops Q S J fuel listed a w->wpAny P md ops Q fuel listed a w:=by
 induction fuel with
 |zero=>intro _ _ _ h;exact h
 |succ n ih=>intro _ _ _ h;exact⟨h.1,λi hi=>wpOp_mono (λa' w' h'=>ih _ a' w' h'.2) (h.2 i hi)⟩
def reach (md:Region.Mode)(ops:Array Oper)(i:Nat):Nat->Nat->Bool
 |0,_=>false
 | n+1,j=>match ops[j]? with
   |some oj=>oj.after.any λe=>Region.binds md e&&(e.on==i||reach md ops i n e.on)
   |none=>false
def waits (md:Region.Mode)(ops:Array Oper)(J:Nat->Bool)(i:Nat):Bool:=
 (List.range ops.size).all λj=>j==i||J j||reach md ops i ops.size j
def Closed (md:Region.Mode)(ops:Array Oper)(listed:Array Bool):Prop:=
 ∀(k:Nat) (ok:Oper),listed.getD k false=true->ops[k]?=some ok->∀e∈ok.after,Region.binds md e=true->listed.getD e.on false=true
def Closed.empty (n:Nat):Closed md ops (Array.replicate n false):=by
 intro k ok h;exfalso
 rw[Array.getD_eq_getD_getElem?,Array.getElem?_replicate]at h;split at h<;>simp at h
def Closed.list {listed:Array Bool}(h:Closed md ops listed){j:Nat}(hj:j∈Region.ready md ops listed):Closed md ops (listed.setIfInBounds j true):=by
 obtain⟨Vi,oj,lc,hall⟩:=mem_ready.1 hj;have up:∀n,listed.getD n false=true->(listed.setIfInBounds j true).getD n false=true:=by
  intro n hn;by_cases hjn:j=n
  . subst hjn;rcases Nat.lt_or_ge j listed.size with h'|h'
    . simp[h']
    . simp[Array.getD_eq_getD_getElem?,Array.getElem?_eq_none h']at hn
  . rw[getD_set_ne false hjn];exact hn
 intro k ok hk hok e he hb;by_cases hjk:j=k
 . subst hjk;rw[lc]at hok;cases hok
   exact up _ (hall e he hb)
 . rw[getD_set_ne false hjk]at hk;exact up _ (h k ok hk hok e he hb)
def ayG {listed:Array Bool}(hc:Closed md ops listed){i:Nat}(n:Nat):∀(j:Nat) (oj:Oper),ops[j]?=some oj->(∀e∈oj.after,Region.binds md e=true->listed.getD e.on false=true)->reach md ops i n j=true->listed.getD i false=true:=by
 induction n with
 |zero=>intro j oj _ _ h;cases h
 | succ n ih=>
   intro j oj lc hall h;unfold reach at h;rw[lc]at h;simp only at h;rw[Array.any_eq_true]at h;obtain⟨k,hk,h2⟩:=h;simp only[Bool.and_eq_true,Bool.or_eq_true,beq_iff_eq]at h2;have h3:=hall _ (Array.getElem_mem hk) h2.1;rcases h2.2 with h4|h4
   . rw[<-h4];exact h3
   . cases ho:ops[oj.after[k].on]? with
     | none=>
       cases n with
       |zero=>cases h4
       |succ m=>unfold reach at h4;rw[ho]at h4;cases h4
     |some ok=>exact ih _ ok ho (hc _ ok h3 ho) h4
def aBh {listed:Array Bool}(hc:Closed md ops listed){i:Nat}(h:waits md ops J i=true)(ED:listed.getD i true=false){j:Nat}(hj:j∈Region.ready md ops listed)(hne:j≠i):J j=true:=by
 obtain⟨Vi,oj,lc,hall⟩:=mem_ready.1 hj;unfold waits at h;rw[List.all_eq_true]at h;have h1:=h j (List.mem_range.2 (Array.getElem?_eq_some_iff.1 lc).1);simp only[Bool.or_eq_true,beq_iff_eq]at h1;rcases h1 with(h1|h1) |h1
 . exact absurd h1 hne
 . exact h1
 . have h2:=ayG hc _ j oj lc hall h1;rcases Nat.lt_or_ge i listed.size with h'|h'
   . simp[h']at ED h2;rw[ED]at h2;cases h2
   . simp[Array.getD_eq_getD_getElem?,Array.getElem?_eq_none h']at h2
def FO {i:Nat}{oi:Oper}{v:Value}(hi:ops[i]?=some oi)(Aq:∀(j:Nat) (o:Oper) cs b,ops[j]?=some o->o.op≠ .select cs b)
 (hQ:∀c a w,Q (.panic c) (a.put oi.dst v) w->Q (.panic c) a w) (hJ:waits md ops J i=true) (fuel:Nat):
 ∀(listed:Array Bool) (a:Act) (w:World),Closed md ops listed->Region.free md ops listed i=true->i∈Region.ready md ops listed->YieldsIf P ops S oi v a->S w->
  sU P md ops Q S J fuel (listed.setIfInBounds i true) (a.put oi.dst v) w->sU P md ops Q S J (fuel+1) listed a w:=by
 induction fuel with
 | zero=>
   intro listed a w _ _ hr hy hS H;refine⟨λh=>(by rw[h]at hr;cases hr),λj hj=>?_⟩;by_cases hji:j=i
   . subst hji;exact hy.wpOp hi hS ⟨λ_=>hS,H⟩
   . have:=ready_mono hj hji;rw[H.1]at this;cases this
 | succ n ih=>
   intro listed a w hc hf hr hy hS H;refine⟨λh=>(by rw[h]at hr;cases hr),λj hj=>?_⟩;by_cases hji:j=i
   . subst hji;exact hy.wpOp hi hS ⟨λ_=>hS,H⟩
   . have h1:=H.2 j (ready_mono hj hji);obtain⟨Vi,oj,lc,hall⟩:=mem_ready.1 hj;have ED:=(mem_ready.1 hr).1;have aug:∀e∈oj.after,Region.binds md e=true->e.on≠i:=by
      intro e he hb heq;have h2:=hall e he hb;rw[heq]at h2;rcases Nat.lt_or_ge i listed.size with h'|h'
      . simp[h']at ED h2;rw[ED]at h2;cases h2
      . simp[Array.getElem?_eq_none h']at h2
     have hjJ:J j=true:=aBh hc hJ ED hj hji;have h2:=wpOp_putIf lc (Region.free_spec hi hf j oj lc hji Vi aug) (λcs b=>Aq i oi cs b hi) (λcs b=>Aq j oj cs b lc) hQ hy h1;have hf':Region.free md ops (listed.setIfInBounds j true) i=true:=by
      unfold Region.free at hf⊢;rw[hi]at hf⊢;simp only[List.all_eq_true]at hf⊢;intro k hk;have:=hf k hk;simp only[Bool.or_eq_true]at this⊢;rcases this with(h3|h3) |h3
      . exact .inl (.inl h3)
      . refine .inl (.inr ?_);by_cases hjk:j=k
        . subst hjk;rcases Nat.lt_or_ge j listed.size with h'|h'
          . simp[h']
          . simp
        . rw[getD_set_ne true hjk];exact h3
      . exact .inr h3
     refine wpOp_mono (λa' w' h3=>⟨h3.2.1,ih (listed.setIfInBounds j true) a' w' (hc.list hj) hf' (ready_mono hr (Ne.symm hji)) h3.1 (h3.2.1 hjJ) ?_⟩) h2;rw[Array.setIfInBounds_comm _ _ hji];exact h3.2.2
def uj (md:Region.Mode)(ops:Array Oper)(J:Nat->Bool):List (Nat×Bool)->Array Bool->Bool
 |[],listed=>(Region.ready md ops listed).isEmpty
 | (i,true)::rest,listed=>(Region.ready md ops listed).contains i&&Region.free md ops listed i&&waits md ops J i&&uj md ops J rest (listed.setIfInBounds i true)
 | (i,false)::rest,listed=>Region.ready md ops listed==[i]&&(J i|| !rest.any (·.2))&&uj md ops J rest (listed.setIfInBounds i true)
def bH (P:Program)(ops:Array Oper)(Q:Exit->Act->World->Prop)(S:World->Prop)(J:Nat->Bool):List (Nat×Bool)->Act->World->Prop
 |[],a,w=>Q .normal a w
 | (i,true)::rest,a,w=>∃o v,ops[i]?=some o/\YieldsIf P ops S o v a/\bH P ops Q S J rest (a.put o.dst v) w
 | (i,false)::rest,a,w=>wpOp P ops Q i (λa' w'=>(J i=true->S w')/\bH P ops Q S J rest a' w') a w
def FQ (hs:Region.noSelect ops=true)(hQ:∀(o:Oper) c a v w,Q (.panic c) (a.put o.dst v) w->Q (.panic c) a w)(plan:List (Nat×Bool)):
 ∀(listed:Array Bool) (a:Act) (w:World),Closed md ops listed->uj md ops J plan listed=true->(plan.any (·.2)=true->S w)->bH P ops Q S J plan a w->sU P md ops Q S J plan.length listed a w:=by
 induction plan with
 |nil=>intro listed a w _ hok _ h;exact⟨List.isEmpty_iff.1 hok,h⟩
 | cons x rest ih=>
   obtain⟨i,b⟩:=x;intro listed a w hc hok hS h;cases b with
   |true=>simp only[uj,Bool.and_eq_true]at hok;obtain⟨⟨⟨h1,h2⟩,h3⟩,h4⟩:=hok;obtain⟨o,v,ho,hy,h⟩:=h;have hSw:S w:=hS zm;exact FO ho (Region.noSelect_spec hs) (λc a w=>hQ o c a v w) h3 rest.length listed a w hc h2 (by simpa using h1) hy hSw (ih _ _ _ (hc.list (by simpa using h1)) h4 (λ_=>hSw) h)
   | false=>
     simp only[uj,Bool.and_eq_true,beq_iff_eq]at hok;obtain⟨⟨h1,h2⟩,h3⟩:=hok;refine⟨λh0=>(by rw[h1]at h0;cases h0),λj hj=>?_⟩;rw[h1]at hj;obtain rfl:j=i:=by simpa using hj
     refine wpOp_mono (λa' w' h4=>⟨h4.1,ih _ _ _ (hc.list (by rw[h1];exact List.mem_singleton.2 rfl)) h3 (λCc=>?_) h4.2⟩) h;rw[Bool.or_eq_true]at h2;rcases h2 with h2|h2
     . exact h4.1 h2
     . rw[Cc]at h2;cases h2
def fh {id:Nat}{a:Act}{w:World}(S:World->Prop)(J:Nat->Bool)(plan:List (Nat×Bool))(hm:P.follows .mixedOrders=true)(hs:Region.noSelect ops=true)
 (hl:plan.length=ops.size) (hok:uj .any ops J plan (Array.replicate ops.size false)=true)
 (hQ:∀(o:Oper) c a v w,Q (.panic c) (a.put o.dst v) w->Q (.panic c) a w) (hS:S w.drew) (h:bH P ops Q S J plan a w.drew):(Code.region id ops true).wp P Q a w:=by
 refine wp_region_any hm (Lc ops.size _ _ _ ?_ (S:=S) (J:=J));have:=FQ (md:=.any) (S:=S) (J:=J) hs hQ plan (Array.replicate ops.size false) a w.drew (Closed.empty _) hok (λ_=>hS) h;rw[hl]at this;exact this
def Ps {i:Nat}{rest:List (Nat×Bool)}{o:Oper}{v:Value}{a:Act}{w:World}(ho:ops.toList[i]?=some o)(hw:Region.wanted o (yielded ops a.tmps)=true)
 (hy:∀w',S w'->(execOp a.eval o).run P w'=.ok (.value v) w') (h:bH P ops Q S J rest (a.put o.dst v) w):bH P ops Q S J ((i,true)::rest) a w:=
 ⟨o,v,by rw[<-Array.getElem?_toList];exact ho,.inl ⟨hw,hy⟩,h⟩
def pT {i:Nat} {rest:List (Nat×Bool)} {o:Oper} {v:Value} {a:Act} {w:World} (ho:ops.toList[i]?=some o) (hw:Region.wanted o (yielded ops a.tmps)=true)
  (h:bH P ops Q S J rest (a.put o.dst v) w) (hy:∀w',S w'->(execOp a.eval o).run P w'=.ok (.value v) w':=by(intro w' hw';go_simp;try with_reducible rfl)):bH P ops Q S J ((i,true)::rest) a w:=Ps ho hw hy h
def UU :(∀(a:Act) (d:Nat) (v:Value),a.put (some d) v=⟨a.tmps.setIfInBounds d v,a.defers⟩)/\(∀(a:Act) (v:Value),a.put none v=a)/\(∀(α:Type) (l:List α) (i:Nat) (a:α),l.toArray.setIfInBounds i a=(l.set i a).toArray)/\(∀(α:Type) (x:α) (l:List α) (a:α),(x::l).set 0 a=a::l)/\(∀(α:Type) (x:α) (l:List α) (i:Nat) (a:α),(x::l).set (i+1) a=x::l.set i a):=⟨λ_ _ _=>rfl,λ_ _=>rfl,λ_ l i a=>U1 l i a,λ_ _ _ _=>rfl,λ_ _ _ _ _=>rfl⟩
def aM {i:Nat}{rest:List (Nat×Bool)}{o:Oper}{a:Act}{w:World}(ho:ops.toList[i]?=some o)(hw:Region.wanted o (yielded ops a.tmps)=true)
 (h:∀K:Act->World->Prop,(∀a' w',(J i=true->S w')->bH P ops Q S J rest a' w'->K a' w')->o.wp P a w K Q):bH P ops Q S J ((i,false)::rest) a w:=by
 show wpOp P ops Q i _ a w
 rw[Array.getElem?_toList]at ho;unfold wpOp;simp only[ho,hw,if_true];exact .inl (h _ (λa' w' h1 h2=>⟨h1,h2⟩))
def cB {plan:List (Nat×Bool)}{a:Act}{W:World}(R:World->Prop)(hR:R W)(h:∀W',R W'->bH P ops Q S J plan a W'):bH P ops Q S J plan a W:=h W hR
end
def aF {w:World}{p a:Addr}{u v:Value}(hne:a.block≠p.block\/a.off≠p.off)(h:w.cell? a=some v):(w.setCell p u).cell? a=some v:=by rw[World.cell?_setCell_other w p a u (λe=>by subst e;rcases hne with h|h<;>exact h rfl)];exact h
section
variable {P:Program} {md:Region.Mode} {ops:Array Oper} {Q:Exit->Act->World->Prop} {S:World->Prop} {J:Nat->Bool}
def KB (md:Region.Mode)(ops:Array Oper)(J:Nat->Bool)(i j:Nat)(p1 p2:List (Nat×Bool)):List Nat->Array Bool->Bool
 |[],listed=>Region.ready md ops listed==[i,j]&&uj md ops J p1 (listed.setIfInBounds i true)&&uj md ops J p2 (listed.setIfInBounds j true)
 |x::pre,listed=>(Region.ready md ops listed).contains x&&Region.free md ops listed x&&waits md ops J x&&KB md ops J i j p1 p2 pre (listed.setIfInBounds x true)
def FU (P:Program)(ops:Array Oper)(Q:Exit->Act->World->Prop)(S:World->Prop)(J:Nat->Bool)(i j:Nat)(p1 p2:List (Nat×Bool)):List Nat->Act->World->Prop
 |[],a,w=>wpOp P ops Q i (λa1 w1=>S w1/\bH P ops Q S J p1 a1 w1) a w/\wpOp P ops Q j (λa1 w1=>S w1/\bH P ops Q S J p2 a1 w1) a w
 |x::pre,a,w=>∃o v,ops[x]?=some o/\YieldsIf P ops S o v a/\FU P ops Q S J i j p1 p2 pre (a.put o.dst v) w
def aBu (hs:Region.noSelect ops=true)(hQ:∀(o:Oper) c a v w,Q (.panic c) (a.put o.dst v) w->Q (.panic c) a w)(i j:Nat)(p1 p2:List (Nat×Bool))(hl:p2.length=p1.length)(pre:List Nat):
 ∀(listed:Array Bool) (a:Act) (w:World),Closed md ops listed->KB md ops J i j p1 p2 pre listed=true->S w->FU P ops Q S J i j p1 p2 pre a w->sU P md ops Q S J (p1.length+1+pre.length) listed a w:=by
 induction pre with
 | nil=>
   intro listed a w hc hok _ h;simp only[KB,Bool.and_eq_true,beq_iff_eq]at hok;obtain⟨⟨h1,h2⟩,h3⟩:=hok;have mi:i∈Region.ready md ops listed:=by rw[h1];simp
   have mj:j∈Region.ready md ops listed:=by rw[h1];simp
   refine⟨λh0=>(by rw[h1]at h0;cases h0),λk hk=>?_⟩;rw[h1]at hk;simp only[List.mem_cons,List.not_mem_nil,or_false]at hk;rcases hk with rfl|rfl
   . exact wpOp_mono (λa1 w1 q=>⟨λ_=>q.1,FQ hs hQ p1 _ _ _ (hc.list mi) h2 (λ_=>q.1) q.2⟩) h.1
   . refine wpOp_mono (λa1 w1 q=>⟨λ_=>q.1,?_⟩) h.2;have:=FQ hs hQ p2 _ _ _ (hc.list mj) h3 (λ_=>q.1) q.2;rw[hl]at this;exact this
 |cons x pre ih=>intro listed a w hc hok hS h;simp only[KB,Bool.and_eq_true]at hok;obtain⟨⟨⟨h1,h2⟩,h3⟩,h4⟩:=hok;obtain⟨o,v,ho,hy,h⟩:=h;exact FO ho (Region.noSelect_spec hs) (λc a w=>hQ o c a v w) h3 (p1.length+1+pre.length) listed a w hc h2 (by simpa using h1) hy hS (ih _ _ _ (hc.list (by simpa using h1)) h4 hS h)
def YB {id:Nat}{a:Act}{w:World}(S:World->Prop)(J:Nat->Bool)(i j:Nat)(p1 p2:List (Nat×Bool))(pre:List Nat)(hm:P.follows .mixedOrders=true)(hs:Region.noSelect ops=true)
 (hl:p1.length+1+pre.length=ops.size) (hl2:p2.length=p1.length) (hok:KB .any ops J i j p1 p2 pre (Array.replicate ops.size false)=true)
 (hQ:∀(o:Oper) c a v w,Q (.panic c) (a.put o.dst v) w->Q (.panic c) a w) (hS:S w.drew) (h:FU P ops Q S J i j p1 p2 pre a w.drew):(Code.region id ops true).wp P Q a w:=by
 refine wp_region_any hm (Lc ops.size _ _ _ ?_ (S:=S) (J:=J));have:=aBu (md:=.any) (S:=S) (J:=J) hs hQ i j p1 p2 hl2 pre (Array.replicate ops.size false) a w.drew (Closed.empty _) hok hS h;rw[hl]at this;exact this
def Xg {i j x:Nat}{p1 p2:List (Nat×Bool)}{pre:List Nat}{o:Oper}{v:Value}{a:Act}{w:World}(ho:ops.toList[x]?=some o)(hw:Region.wanted o (yielded ops a.tmps)=true)
 (hy:∀w',S w'->(execOp a.eval o).run P w'=.ok (.value v) w') (h:FU P ops Q S J i j p1 p2 pre (a.put o.dst v) w):FU P ops Q S J i j p1 p2 (x::pre) a w:=
 ⟨o,v,by rw[<-Array.getElem?_toList];exact ho,.inl ⟨hw,hy⟩,h⟩
def Xf {i j:Nat}{p1 p2:List (Nat×Bool)}{oi oj:Oper}{a:Act}{w:World}(hoi:ops.toList[i]?=some oi)(lc:ops.toList[j]?=some oj)(ma:Region.wanted oi (yielded ops a.tmps)=true)(ng:Region.wanted oj (yielded ops a.tmps)=true)
 (h1:∀K:Act->World->Prop,(∀a' w',S w'->bH P ops Q S J p1 a' w'->K a' w')->oi.wp P a w K Q) (h2:∀K:Act->World->Prop,(∀a' w',S w'->bH P ops Q S J p2 a' w'->K a' w')->oj.wp P a w K Q):FU P ops Q S J i j p1 p2 [] a w:=by
 rw[Array.getElem?_toList]at hoi lc;refine⟨?_,?_⟩
 . unfold wpOp;simp only[hoi,ma,if_true];exact .inl (h1 _ (λa' w' q1 q2=>⟨q1,q2⟩))
 . unfold wpOp;simp only[lc,ng,if_true];exact .inl (h2 _ (λa' w' q1 q2=>⟨q1,q2⟩))
end
inductive PT where
 |lin (p:List (Nat×Bool))
 |rd (x:Nat) (t:PT)
 |br (i j:Nat) (t1 t2:PT)
 |tr (i j k:Nat) (t1 t2 t3:PT)
def PT.size :PT->Nat
 | .lin p=>p.length
 | .rd _ t=>t.size+1
 | .br _ _ t1 _=>t1.size+1
 | .tr _ _ _ t1 _ _=>t1.size+1
section
variable {P:Program} {md:Region.Mode} {ops:Array Oper} {Q:Exit->Act->World->Prop} {S:World->Prop} {J:Nat->Bool}
def vF (md:Region.Mode)(ops:Array Oper)(J:Nat->Bool):PT->Array Bool->Bool
 | .lin p,listed=>uj md ops J p listed
 | .rd x t,listed=>(Region.ready md ops listed).contains x&&Region.free md ops listed x&&waits md ops J x&&vF md ops J t (listed.setIfInBounds x true)
 | .br i j t1 t2,listed=>Region.ready md ops listed==[i,j]&&t1.size==t2.size&&J i&&J j&&vF md ops J t1 (listed.setIfInBounds i true)&&vF md ops J t2 (listed.setIfInBounds j true)
 | .tr i j k t1 t2 t3,listed=>Region.ready md ops listed==[i,j,k]&&t1.size==t2.size&&t1.size==t3.size&&vF md ops J t1 (listed.setIfInBounds i true)&&vF md ops J t2 (listed.setIfInBounds j true)&&vF md ops J t3 (listed.setIfInBounds k true)
def oK (P:Program)(ops:Array Oper)(Q:Exit->Act->World->Prop)(S:World->Prop)(J:Nat->Bool):PT->Act->World->Prop
 | .lin p,a,w=>bH P ops Q S J p a w
 | .rd x t,a,w=>∃o v,ops[x]?=some o/\YieldsIf P ops S o v a/\oK P ops Q S J t (a.put o.dst v) w
 | .br i j t1 t2,a,w=>wpOp P ops Q i (λa1 w1=>S w1/\oK P ops Q S J t1 a1 w1) a w/\wpOp P ops Q j (λa1 w1=>S w1/\oK P ops Q S J t2 a1 w1) a w
 | .tr i j k t1 t2 t3,a,w=>wpOp P ops Q i (λa1 w1=>S w1/\oK P ops Q S J t1 a1 w1) a w/\wpOp P ops Q j (λa1 w1=>S w1/\oK P ops Q S J t2 a1 w1) a w/\wpOp P ops Q k (λa1 w1=>S w1/\oK P ops Q S J t3 a1 w1) a w
def aBv (hs:Region.noSelect ops=true)(hQ:∀(o:Oper) c a v w,Q (.panic c) (a.put o.dst v) w->Q (.panic c) a w)(t:PT):
 ∀(listed:Array Bool) (a:Act) (w:World),Closed md ops listed->vF md ops J t listed=true->S w->oK P ops Q S J t a w->sU P md ops Q S J t.size listed a w:=by
 induction t with
 |lin p=>intro listed a w hc hok hS h;exact FQ hs hQ p _ _ _ hc hok (λ_=>hS) h
 | br i j t1 t2 ih1 ih2=>
   intro listed a w hc hok _ h;simp only[vF,Bool.and_eq_true,beq_iff_eq]at hok;obtain⟨⟨⟨⟨⟨h1,hsz⟩,_⟩,_⟩,h2⟩,h3⟩:=hok;have mi:i∈Region.ready md ops listed:=by rw[h1];simp
   have mj:j∈Region.ready md ops listed:=by rw[h1];simp
   refine⟨λh0=>(by rw[h1]at h0;cases h0),λk hk=>?_⟩;rw[h1]at hk;simp only[List.mem_cons,List.not_mem_nil,or_false]at hk;rcases hk with rfl|rfl
   . exact wpOp_mono (λa1 w1 q=>⟨λ_=>q.1,ih1 _ _ _ (hc.list mi) h2 q.1 q.2⟩) h.1
   . refine wpOp_mono (λa1 w1 q=>⟨λ_=>q.1,?_⟩) h.2;have:=ih2 _ _ _ (hc.list mj) h3 q.1 q.2;rw[<-hsz]at this;exact this
 | tr i j k t1 t2 t3 ih1 ih2 ih3=>
   intro listed a w hc hok _ h;simp only[vF,Bool.and_eq_true,beq_iff_eq]at hok;obtain⟨⟨⟨⟨⟨h1,hs2⟩,hs3⟩,h2⟩,h3⟩,h4⟩:=hok;have mi:i∈Region.ready md ops listed:=by rw[h1];simp
   have mj:j∈Region.ready md ops listed:=by rw[h1];simp
   have mk:k∈Region.ready md ops listed:=by rw[h1];simp
   refine⟨λh0=>(by rw[h1]at h0;cases h0),λl hl=>?_⟩;rw[h1]at hl;simp only[List.mem_cons,List.not_mem_nil,or_false]at hl;rcases hl with rfl|rfl|rfl
   . exact wpOp_mono (λa1 w1 q=>⟨λ_=>q.1,ih1 _ _ _ (hc.list mi) h2 q.1 q.2⟩) h.1
   . refine wpOp_mono (λa1 w1 q=>⟨λ_=>q.1,?_⟩) h.2.1;have:=ih2 _ _ _ (hc.list mj) h3 q.1 q.2;rw[<-hs2]at this;exact this
   . refine wpOp_mono (λa1 w1 q=>⟨λ_=>q.1,?_⟩) h.2.2;have:=ih3 _ _ _ (hc.list mk) h4 q.1 q.2;rw[<-hs3]at this;exact this
 |rd x t ih=>intro listed a w hc hok hS h;simp only[vF,Bool.and_eq_true]at hok;obtain⟨⟨⟨h1,h2⟩,h3⟩,h4⟩:=hok;obtain⟨o,v,ho,hy,h⟩:=h;exact FO ho (Region.noSelect_spec hs) (λc a w=>hQ o c a v w) h3 t.size listed a w hc h2 (by simpa using h1) hy hS (ih _ _ _ (hc.list (by simpa using h1)) h4 hS h)
def aj2 {id:Nat}{a:Act}{w:World}(S:World->Prop)(J:Nat->Bool)(t:PT)(hm:P.follows .mixedOrders=true)(hs:Region.noSelect ops=true)
 (hl:t.size=ops.size) (hok:vF .any ops J t (Array.replicate ops.size false)=true)
 (hQ:∀(o:Oper) c a v w,Q (.panic c) (a.put o.dst v) w->Q (.panic c) a w) (hS:S w.drew) (h:oK P ops Q S J t a w.drew):(Code.region id ops true).wp P Q a w:=by
 refine wp_region_any hm (Lc ops.size _ _ _ ?_ (S:=S) (J:=J));have:=aBv (md:=.any) (S:=S) (J:=J) hs hQ t (Array.replicate ops.size false) a w.drew (Closed.empty _) hok hS h;rw[hl]at this;exact this
def air {x:Nat}{t:PT}{o:Oper}{v:Value}{a:Act}{w:World}(ho:ops.toList[x]?=some o)(hw:Region.wanted o (yielded ops a.tmps)=true)
 (hy:∀w',S w'->(execOp a.eval o).run P w'=.ok (.value v) w') (h:oK P ops Q S J t (a.put o.dst v) w):oK P ops Q S J (.rd x t) a w:=
 ⟨o,v,by rw[<-Array.getElem?_toList];exact ho,.inl ⟨hw,hy⟩,h⟩
def aiq {i j:Nat}{t1 t2:PT}{oi oj:Oper}{a:Act}{w:World}(hJi:J i=true)(hJj:J j=true)(hoi:ops.toList[i]?=some oi)(lc:ops.toList[j]?=some oj)(ma:Region.wanted oi (yielded ops a.tmps)=true)(ng:Region.wanted oj (yielded ops a.tmps)=true)
 (h1:∀K:Act->World->Prop,(∀a' w',(J i=true->S w')->oK P ops Q S J t1 a' w'->K a' w')->oi.wp P a w K Q) (h2:∀K:Act->World->Prop,(∀a' w',(J j=true->S w')->oK P ops Q S J t2 a' w'->K a' w')->oj.wp P a w K Q):oK P ops Q S J (.br i j t1 t2) a w:=by
 rw[Array.getElem?_toList]at hoi lc;refine⟨?_,?_⟩
 . unfold wpOp;simp only[hoi,ma,if_true];exact .inl (h1 _ (λa' w' q1 q2=>⟨q1 hJi,q2⟩))
 . unfold wpOp;simp only[lc,ng,if_true];exact .inl (h2 _ (λa' w' q1 q2=>⟨q1 hJj,q2⟩))
def ais {t:PT}{a:Act}{W:World}(R:World->Prop)(hR:R W)(h:∀W',R W'->oK P ops Q S J t a W'):oK P ops Q S J t a W:=h W hR
def Pw {p:List (Nat×Bool)}{a:Act}{w:World}(h:bH P ops Q S J p a w):oK P ops Q S J (.lin p) a w:=h
end
def iD (cs:List (Addr×Value))(w:World):Prop:=∀p∈cs,w.cell? p.1=some p.2
def iD.below {cs:List (Addr×Value)}{w w':World}(h:iD cs w)(hb:Bw w w'):iD cs w':=λp hp=>cell_later hb (h p hp)
def iD.hd {p:Addr×Value}{cs:List (Addr×Value)}{w:World}(h:iD (p::cs) w):w.cell? p.1=some p.2:=h p zm
def iD.tl {p:Addr×Value}{cs:List (Addr×Value)}{w:World}(h:iD (p::cs) w):iD cs w:=λq hq=>h q (by simp[hq])
def iD.alloc {cs:List (Addr×Value)}{w:World}(h:iD cs w)(o:Obj):iD cs (w.alloc o):=h.below zl
def iD.drew {cs:List (Addr×Value)}{w:World}(h:iD cs w):iD cs w.drew:=h
def axV {P:Program}{ops:Array Oper}{Q:Exit->Act->World->Prop}{S:World->Prop}{J:Nat->Bool}{i:Nat}{rest:List (Nat×Bool)}{o:Oper}{a:Act}{w:World}(ho:ops.toList[i]?=some o)(hw:Region.wanted o (yielded ops a.tmps)=false)
 (h:bH P ops Q S J rest (a.put o.dst undef) w):bH P ops Q S J ((i,true)::rest) a w:=
 ⟨o,undef,by rw[<-Array.getElem?_toList];exact ho,.inr ⟨hw,rfl⟩,h⟩
def aip {P:Program}{ops:Array Oper}{Q:Exit->Act->World->Prop}{S:World->Prop}{J:Nat->Bool}{i:Nat}{rest:List (Nat×Bool)}{o:Oper}{a:Act}{w:World}(ho:ops.toList[i]?=some o)(hw:Region.wanted o (yielded ops a.tmps)=false)
 (hS:J i=true->S w) (h:bH P ops Q S J rest (a.put o.dst undef) w):bH P ops Q S J ((i,false)::rest) a w:=by
 show wpOp P ops Q i _ a w
 rw[Array.getElem?_toList]at ho;unfold wpOp;simp only[ho,hw];exact⟨hS,h⟩
def ez (A w:World):Prop:=Bw A w
def ez.below {A w w':World}(h:ez A w)(hb:Bw w w'):ez A w':=aI h hb
def ez.alloc {A w:World}(h:ez A w)(o:Obj):ez A (w.alloc o):=h.below zl
def ez.drew {A w:World}(h:ez A w):ez A w.drew:=Below.drew h
class QTr (p:Prop) (w:World) (G:outParam (World->Prop)):Prop where
 out:p->∀W,Bw w W->G W
class QCe (p:Prop) (c:outParam Prop):Prop where
 out:p->c
class QDr (w1:World) (w:outParam World):Prop where
 out:w1=w\/w1=w.drew
instance (priority:=low) (w:World):QDr w w:=⟨.inl rfl⟩
instance (w :World):QDr w.drew w:=⟨.inr rfl⟩
def QDr.back {w1 w W:World}[d:QDr w1 w](k:Bw w1 W):Bw w W:=by
 rcases d.out with rfl|rfl
 . exact k
 . exact cu k
class QLz (p:Prop) (c:outParam Prop):Prop where
 out:p->c
class QIm (p q:Prop):Prop where
 out:p->q
class QUp (p q:Prop):Prop where
 out:p->q
class QSto (p:Prop) (w:World) (b o:Nat) (vs:List Value) (G:outParam (World->Prop)) (N:outParam Prop):Prop where
 out:p->∀W,aV w b o vs W->N->G W
section
variable {p q r m n:Prop} {F G:World->Prop} {b c o:Nat} {t:TypeId} {x:Value} {l vs:List Value} {a:Option Addr} {w w0:World}
instance (priority:=low) :QTr p w (λ_=>p):=⟨λh _ _=>h⟩
instance [QTr p w F]:QTr (Hid p) w (λW=>Hid (F W)):=⟨λh W k=>aj (QTr.out h.out W k)⟩
instance [QTr p w F] [QTr q w G]:QTr (p/\q) w (λW=>F W/\G W):=⟨λh W k=>⟨QTr.out h.1 W k,QTr.out h.2 W k⟩⟩
instance:QTr (ar w b t l) w (λW=>ar W b t l):=⟨λh _ k=>ar.below h k⟩
instance:QTr (At w a l) w (λW=>At W a l):=⟨λh _ k=>At.below h k⟩
instance:QTr (aC w) w (λW=>aC W):=⟨λh _ k=>aC.below h k⟩
instance:QTr (Bw w0 w) w (λW=>Bw w0 W):=⟨λh _ k=>aI h k⟩
instance:QTr (ez w0 w) w (λW=>ez w0 W):=⟨λh _ k=>ez.below h k⟩
instance:QUp p p:=⟨id⟩
instance:QUp (aC w) (aC w.drew):=⟨λh=>aC.below h ((Below.refl _ _).drew)⟩
instance {x :Obj}:QUp (aC w) (aC (w.alloc x)):=⟨λh=>aC.below h zl⟩
instance {x :Obj}:QUp (aC w) (aC (w.alloc x).drew):=⟨λh=>aC.below h (zl.drew)⟩
instance {x :Obj}:QUp (aC w) (aC (w.drew.alloc x)):=⟨λh=>aC.below h (((Below.refl _ _).drew).alloc (Nat.le_refl _) _)⟩
instance {k :Nat}:QUp (Below k w0 w) (Below k w0 w.drew):=⟨λh=>h.drew⟩
instance:QUp (At w a l) (At w.drew a l):=⟨λh=>At.below h ((Below.refl _ _).drew)⟩
instance:QUp (ar w b t l) (ar w.drew b t l):=⟨λh=>ar.drew h⟩
instance (priority:=10) :QCe p True:=⟨λ_=>trivial⟩
instance [QCe p q]:QCe (Hid p) q:=⟨λh=>QCe.out h.out⟩
instance [QCe p m] [QCe q n]:QCe (p/\q) (m/\n):=⟨λh=>⟨QCe.out h.1,QCe.out h.2⟩⟩
instance (priority:=low) :QCe (ar w b t (x::l)) ((∀j,w.cell? ⟨b,j,none⟩=(x::l)[j]?)/\∀j,w.frozen? ⟨b,j,none⟩=false):=⟨λh=>⟨h.cell,h.free⟩⟩
instance {x0 :Value}:QCe (ar w b t [x0]) (w.cell? ⟨b,0,none⟩=some x0/\∀j,w.frozen? ⟨b,j,none⟩=false):=⟨λh=>⟨h.cell 0,h.free⟩⟩
instance {x0 x1:Value}:QCe (ar w b t [x0,x1]) (w.cell? ⟨b,0,none⟩=some x0/\w.cell? ⟨b,1,none⟩=some x1/\∀j,w.frozen? ⟨b,j,none⟩=false):=⟨λh=>⟨h.cell 0,h.cell 1,h.free⟩⟩
instance {x0 x1 x2:Value}:QCe (ar w b t [x0,x1,x2]) (w.cell? ⟨b,0,none⟩=some x0/\w.cell? ⟨b,1,none⟩=some x1/\w.cell? ⟨b,2,none⟩=some x2/\∀j,w.frozen? ⟨b,j,none⟩=false):=⟨λh=>⟨h.cell 0,h.cell 1,h.cell 2,h.free⟩⟩
instance {x0 x1 x2 x3:Value}:QCe (ar w b t [x0,x1,x2,x3]) (w.cell? ⟨b,0,none⟩=some x0/\w.cell? ⟨b,1,none⟩=some x1/\w.cell? ⟨b,2,none⟩=some x2/\w.cell? ⟨b,3,none⟩=some x3/\∀j,w.frozen? ⟨b,j,none⟩=false):=⟨λh=>⟨h.cell 0,h.cell 1,h.cell 2,h.cell 3,h.free⟩⟩
instance {x0 x1 x2 x3 x4:Value}:QCe (ar w b t [x0,x1,x2,x3,x4]) (w.cell? ⟨b,0,none⟩=some x0/\w.cell? ⟨b,1,none⟩=some x1/\w.cell? ⟨b,2,none⟩=some x2/\w.cell? ⟨b,3,none⟩=some x3/\w.cell? ⟨b,4,none⟩=some x4/\∀j,w.frozen? ⟨b,j,none⟩=false):=⟨λh=>⟨h.cell 0,h.cell 1,h.cell 2,h.cell 3,h.cell 4,h.free⟩⟩
instance {x0 x1 x2 x3 x4 x5:Value}:QCe (ar w b t [x0,x1,x2,x3,x4,x5]) (w.cell? ⟨b,0,none⟩=some x0/\w.cell? ⟨b,1,none⟩=some x1/\w.cell? ⟨b,2,none⟩=some x2/\w.cell? ⟨b,3,none⟩=some x3/\w.cell? ⟨b,4,none⟩=some x4/\w.cell? ⟨b,5,none⟩=some x5/\∀j,w.frozen? ⟨b,j,none⟩=false):=⟨λh=>⟨h.cell 0,h.cell 1,h.cell 2,h.cell 3,h.cell 4,h.cell 5,h.free⟩⟩
instance {x0 x1 x2 x3 x4 x5 x6:Value}:QCe (ar w b t [x0,x1,x2,x3,x4,x5,x6]) (w.cell? ⟨b,0,none⟩=some x0/\w.cell? ⟨b,1,none⟩=some x1/\w.cell? ⟨b,2,none⟩=some x2/\w.cell? ⟨b,3,none⟩=some x3/\w.cell? ⟨b,4,none⟩=some x4/\w.cell? ⟨b,5,none⟩=some x5/\w.cell? ⟨b,6,none⟩=some x6/\∀j,w.frozen? ⟨b,j,none⟩=false):=⟨λh=>⟨h.cell 0,h.cell 1,h.cell 2,h.cell 3,h.cell 4,h.cell 5,h.cell 6,h.free⟩⟩
instance {x0 x1 x2 x3 x4 x5 x6 x7:Value}:QCe (ar w b t [x0,x1,x2,x3,x4,x5,x6,x7]) (w.cell? ⟨b,0,none⟩=some x0/\w.cell? ⟨b,1,none⟩=some x1/\w.cell? ⟨b,2,none⟩=some x2/\w.cell? ⟨b,3,none⟩=some x3/\w.cell? ⟨b,4,none⟩=some x4/\w.cell? ⟨b,5,none⟩=some x5/\w.cell? ⟨b,6,none⟩=some x6/\w.cell? ⟨b,7,none⟩=some x7/\∀j,w.frozen? ⟨b,j,none⟩=false):=⟨λh=>⟨h.cell 0,h.cell 1,h.cell 2,h.cell 3,h.cell 4,h.cell 5,h.cell 6,h.cell 7,h.free⟩⟩
instance (priority:=low) :QLz p True:=⟨λ_=>trivial⟩
instance [QLz p q]:QLz (Hid p) q:=⟨λh=>QLz.out h.out⟩
instance [QLz p m] [QLz q n]:QLz (p/\q) (m/\n):=⟨λh=>⟨QLz.out h.1,QLz.out h.2⟩⟩
instance:QLz (ar w b t l) (b<w.heap.size):=⟨λh=>h.lt⟩
instance:QLz (Bw w0 w) (w0.heap.size<=w.heap.size):=⟨λh=>h.size⟩
instance (priority:=low) :QIm p True:=⟨λ_=>trivial⟩
instance:QIm p p:=⟨id⟩
instance (priority:=low) [QIm q r]:QIm (p/\q) r:=⟨λh=>QIm.out h.2⟩
instance (priority:=low) :QSto p w b o vs (λ_=>True) True:=⟨λ_ _ _ _=>trivial⟩
instance [QSto p w b o vs F m]:QSto (Hid p) w b o vs (λW=>Hid (F W)) m:=⟨λh W k n=>aj (QSto.out h.out W k n)⟩
instance [QSto p w b o vs F m] [QSto q w b o vs G n]:QSto (p/\q) w b o vs (λW=>F W/\G W) (m/\n):=⟨λh W k n=>⟨QSto.out h.1 W k n.1,QSto.out h.2 W k n.2⟩⟩
instance:QSto (ar w c t l) w b o vs (λW=>ar W c t l) (b≠c):=⟨λh _ k n=>(kS (aj h) k n).out⟩
instance (priority:=high) :QSto (ar w b t l) w b o vs (λW=>ar W b t (bV o vs l)) True:=⟨λh _ k _=>(Az (aj h) k).out⟩
instance:QSto (Bw w0 w) w b o vs (λW=>Bw w0 W) (w0.heap.size<=b):=⟨λh _ k n=>(bS (aj h) k n).out⟩
end
section
variable {p q c m:Prop} {G C:World->Prop} {w w' w1 W:World}
def qU {p q:Prop}(h:p)[QUp p q]:q:=QUp.out h
def qC (h:p)[QCe p c]:c:=QCe.out h
def qZ (h:p)[QCe p c]:p/\c:=⟨h,QCe.out h⟩
def qL (h:p)[QLz p c]:c:=QLz.out h
def qX (k:Bw w W)(h:p)[QTr p w G][QCe (G W) c]:G W/\c:=⟨QTr.out h W k,QCe.out (QTr.out h W k)⟩
def bU {b o:Nat}{vs:List Value}{N:Prop}(k:aV w b o vs W)(h:p)[QSto p w b o vs G N](n:N:=by first|exact trivial|omega| (simp<;>omega)):G W:=QSto.out h W k n
def aJ {P:Program}{f:FuncId}{args:Array Value}{R:Ending->World->Prop}{v:Value}(h:p)(c:Calls P f args w1 λe w'=>e=.returned v/\Bw w1 w')[QDr w1 w][QTr p w G][∀W,QCe (G W) (C W)]
 (n:∀W,G W->C W->R (.returned v) W):Calls P f args w1 R:=
 c.mono λ_ W ⟨e,k⟩=>e▸n W (QTr.out h W (QDr.back k)) (QCe.out (QTr.out h W (QDr.back k)))
class QWg (g:Prop) (w:outParam World) (R:outParam (World->Prop)):Prop where
 out:R w->g
instance {P :Program} {c:Code} {Q:Exit->Act->World->Prop} {a:Act}:QWg (c.wp P Q a w) w (λW=>c.wp P Q a W):=⟨id⟩
instance {P :Program} {f:FuncId} {args:Array Value} {R:Ending->World->Prop}:QWg (Calls P f args w R) w (λW=>Calls P f args W R):=⟨id⟩
def _root_.Go.RowKit.Hid.an {p q:Prop}(h:Hid p)(k:q):Hid p/\q:=⟨h,k⟩
def Sv (w:World)(t0:TypeId)(l0:List Value)(W:World):Prop:=Hid (ar W (w.heap.size) t0 l0)/\Bw w W
def ayo (w:World)(t0:TypeId)(l0:List Value):Sv w t0 l0 (w.alloc (.cells l0.toArray t0)):=⟨aj (ar.new _ _ _),zl⟩
def ayr (w:World)(t0:TypeId)(l0:List Value):Sv w t0 l0 (w.alloc (.cells l0.toArray t0)).drew:=⟨aj ((ar.new _ _ _)).drew,zl.drew⟩
def il (w:World)(t0:TypeId)(l0:List Value){C:World->Prop}[∀W,QCe (Hid (Bw w W)/\Hid (ar W (w.heap.size) t0 l0)/\True) (C W)]:∃W,(w.alloc (.cells l0.toArray t0))=W/\(Hid (Bw w W)/\Hid (ar W (w.heap.size) t0 l0)/\True)/\C W:=
 have h:Hid (Bw w (w.alloc (.cells l0.toArray t0)))/\Hid (ar (w.alloc (.cells l0.toArray t0)) (w.heap.size) t0 l0)/\True:=⟨aj zl,aj (ar.new _ _ _),trivial⟩
 ⟨_,rfl,h,QCe.out h⟩
def bX (w:World){p m:Prop}{G C:World->Prop}(h:p)(t0:TypeId)(l0:List Value)[QTr p w G][QLz p m][∀W,QCe (Hid (ar W (w.heap.size) t0 l0)/\G W) (C W)]:∃W,(w.alloc (.cells l0.toArray t0))=W/\m/\(Hid (ar W (w.heap.size) t0 l0)/\G W)/\C W:=
 have k:Hid (ar (w.alloc (.cells l0.toArray t0)) (w.heap.size) t0 l0)/\G (w.alloc (.cells l0.toArray t0)):=⟨aj (ar.new _ _ _),QTr.out h _ zl⟩
 ⟨_,rfl,QLz.out h,k,QCe.out k⟩
def ik (w:World){g p m:Prop}{w0:World}{G C R:World->Prop}(h:p)(t0:TypeId)(l0:List Value)[QTr p w G][QLz p m][∀W,QCe (Hid (ar W (w.heap.size) t0 l0)/\G W) (C W)][QWg g w0 R](n:∀W,m->(Hid (ar W (w.heap.size) t0 l0)/\G W)->C W->R W)
 (e:Sv w t0 l0 w0:=by first|exact ayo _ _ _|exact ayr _ _ _):g:=
 QWg.out (w:=w0) (R:=R) (have k:Hid (ar w0 (w.heap.size) t0 l0)/\G w0:=⟨e.1,QTr.out h _ e.2⟩;n w0 (QLz.out h) k (QCe.out k))
def Sw (w:World)(t0:TypeId)(l0:List Value)(t1:TypeId)(l1:List Value)(W:World):Prop:=Hid (ar W (w.heap.size) t0 l0)/\Hid (ar W (w.heap.size+1) t1 l1)/\Bw w W
def ayp (w:World)(t0:TypeId)(l0:List Value)(t1:TypeId)(l1:List Value):Sw w t0 l0 t1 l1 ((w.alloc (.cells l0.toArray t0)).alloc (.cells l1.toArray t1)):=⟨aj ((ar.new _ _ _).alloc _),aj (ar.newAt _ _ _ zm),(zl.alloc zj _)⟩
def ays (w:World)(t0:TypeId)(l0:List Value)(t1:TypeId)(l1:List Value):Sw w t0 l0 t1 l1 ((w.alloc (.cells l0.toArray t0)).alloc (.cells l1.toArray t1)).drew:=⟨aj (((ar.new _ _ _).alloc _)).drew,aj ((ar.newAt _ _ _ zm)).drew,(zl.alloc zj _).drew⟩
def lA (w:World)(t0:TypeId)(l0:List Value)(t1:TypeId)(l1:List Value){C:World->Prop}[∀W,QCe (Hid (Bw w W)/\Hid (ar W (w.heap.size) t0 l0)/\Hid (ar W (w.heap.size+1) t1 l1)/\True) (C W)]:∃W,((w.alloc (.cells l0.toArray t0)).alloc (.cells l1.toArray t1))=W/\(Hid (Bw w W)/\Hid (ar W (w.heap.size) t0 l0)/\Hid (ar W (w.heap.size+1) t1 l1)/\True)/\C W:=
 have h:Hid (Bw w ((w.alloc (.cells l0.toArray t0)).alloc (.cells l1.toArray t1)))/\Hid (ar ((w.alloc (.cells l0.toArray t0)).alloc (.cells l1.toArray t1)) (w.heap.size) t0 l0)/\Hid (ar ((w.alloc (.cells l0.toArray t0)).alloc (.cells l1.toArray t1)) (w.heap.size+1) t1 l1)/\True:=⟨aj (zl.alloc zj _),aj ((ar.new _ _ _).alloc _),aj (ar.newAt _ _ _ zm),trivial⟩
 ⟨_,rfl,h,QCe.out h⟩
def KH (w:World){p m:Prop}{G C:World->Prop}(h:p)(t0:TypeId)(l0:List Value)(t1:TypeId)(l1:List Value)[QTr p w G][QLz p m][∀W,QCe (Hid (ar W (w.heap.size) t0 l0)/\Hid (ar W (w.heap.size+1) t1 l1)/\G W) (C W)]:∃W,((w.alloc (.cells l0.toArray t0)).alloc (.cells l1.toArray t1))=W/\m/\(Hid (ar W (w.heap.size) t0 l0)/\Hid (ar W (w.heap.size+1) t1 l1)/\G W)/\C W:=
 have k:Hid (ar ((w.alloc (.cells l0.toArray t0)).alloc (.cells l1.toArray t1)) (w.heap.size) t0 l0)/\Hid (ar ((w.alloc (.cells l0.toArray t0)).alloc (.cells l1.toArray t1)) (w.heap.size+1) t1 l1)/\G ((w.alloc (.cells l0.toArray t0)).alloc (.cells l1.toArray t1)):=⟨aj ((ar.new _ _ _).alloc _),aj (ar.newAt _ _ _ zm),QTr.out h _ (zl.alloc zj _)⟩
 ⟨_,rfl,QLz.out h,k,QCe.out k⟩
def lw (w:World){g p m:Prop}{w0:World}{G C R:World->Prop}(h:p)(t0:TypeId)(l0:List Value)(t1:TypeId)(l1:List Value)[QTr p w G][QLz p m][∀W,QCe (Hid (ar W (w.heap.size) t0 l0)/\Hid (ar W (w.heap.size+1) t1 l1)/\G W) (C W)][QWg g w0 R](n:∀W,m->(Hid (ar W (w.heap.size) t0 l0)/\Hid (ar W (w.heap.size+1) t1 l1)/\G W)->C W->R W)
 (e:Sw w t0 l0 t1 l1 w0:=by first|exact ayp _ _ _ _ _|exact ays _ _ _ _ _):g:=
 QWg.out (w:=w0) (R:=R) (have k:Hid (ar w0 (w.heap.size) t0 l0)/\Hid (ar w0 (w.heap.size+1) t1 l1)/\G w0:=⟨e.1,e.2.1,QTr.out h _ e.2.2⟩;n w0 (QLz.out h) k (QCe.out k))
def Sy (w:World)(t0:TypeId)(l0:List Value)(t1:TypeId)(l1:List Value)(t2:TypeId)(l2:List Value)(W:World):Prop:=Hid (ar W (w.heap.size) t0 l0)/\Hid (ar W (w.heap.size+1) t1 l1)/\Hid (ar W (w.heap.size+1+1) t2 l2)/\Bw w W
def ayq (w:World)(t0:TypeId)(l0:List Value)(t1:TypeId)(l1:List Value)(t2:TypeId)(l2:List Value):Sy w t0 l0 t1 l1 t2 l2 (((w.alloc (.cells l0.toArray t0)).alloc (.cells l1.toArray t1)).alloc (.cells l2.toArray t2)):=⟨aj (((ar.new _ _ _).alloc _).alloc _),aj ((ar.newAt _ _ _ zm).alloc _),aj (ar.newAt _ _ _ zm),((zl.alloc zj _).alloc zj _)⟩
def ayt (w:World)(t0:TypeId)(l0:List Value)(t1:TypeId)(l1:List Value)(t2:TypeId)(l2:List Value):Sy w t0 l0 t1 l1 t2 l2 (((w.alloc (.cells l0.toArray t0)).alloc (.cells l1.toArray t1)).alloc (.cells l2.toArray t2)).drew:=⟨aj ((((ar.new _ _ _).alloc _).alloc _)).drew,aj (((ar.newAt _ _ _ zm).alloc _)).drew,aj ((ar.newAt _ _ _ zm)).drew,((zl.alloc zj _).alloc zj _).drew⟩
def Pz (w:World)(t0:TypeId)(l0:List Value)(t1:TypeId)(l1:List Value)(t2:TypeId)(l2:List Value){C:World->Prop}[∀W,QCe (Hid (Bw w W)/\Hid (ar W (w.heap.size) t0 l0)/\Hid (ar W (w.heap.size+1) t1 l1)/\Hid (ar W (w.heap.size+1+1) t2 l2)/\True) (C W)]:∃W,(((w.alloc (.cells l0.toArray t0)).alloc (.cells l1.toArray t1)).alloc (.cells l2.toArray t2))=W/\(Hid (Bw w W)/\Hid (ar W (w.heap.size) t0 l0)/\Hid (ar W (w.heap.size+1) t1 l1)/\Hid (ar W (w.heap.size+1+1) t2 l2)/\True)/\C W:=
 have h:Hid (Bw w (((w.alloc (.cells l0.toArray t0)).alloc (.cells l1.toArray t1)).alloc (.cells l2.toArray t2)))/\Hid (ar (((w.alloc (.cells l0.toArray t0)).alloc (.cells l1.toArray t1)).alloc (.cells l2.toArray t2)) (w.heap.size) t0 l0)/\Hid (ar (((w.alloc (.cells l0.toArray t0)).alloc (.cells l1.toArray t1)).alloc (.cells l2.toArray t2)) (w.heap.size+1) t1 l1)/\Hid (ar (((w.alloc (.cells l0.toArray t0)).alloc (.cells l1.toArray t1)).alloc (.cells l2.toArray t2)) (w.heap.size+1+1) t2 l2)/\True:=⟨aj ((zl.alloc zj _).alloc zj _),aj (((ar.new _ _ _).alloc _).alloc _),aj ((ar.newAt _ _ _ zm).alloc _),aj (ar.newAt _ _ _ zm),trivial⟩
 ⟨_,rfl,h,QCe.out h⟩
def Py (w:World){g p m:Prop}{w0:World}{G C R:World->Prop}(h:p)(t0:TypeId)(l0:List Value)(t1:TypeId)(l1:List Value)(t2:TypeId)(l2:List Value)[QTr p w G][QLz p m][∀W,QCe (Hid (ar W (w.heap.size) t0 l0)/\Hid (ar W (w.heap.size+1) t1 l1)/\Hid (ar W (w.heap.size+1+1) t2 l2)/\G W) (C W)][QWg g w0 R](n:∀W,m->(Hid (ar W (w.heap.size) t0 l0)/\Hid (ar W (w.heap.size+1) t1 l1)/\Hid (ar W (w.heap.size+1+1) t2 l2)/\G W)->C W->R W)
 (e:Sy w t0 l0 t1 l1 t2 l2 w0:=by first|exact ayq _ _ _ _ _ _ _|exact ayt _ _ _ _ _ _ _):g:=
 QWg.out (w:=w0) (R:=R) (have k:Hid (ar w0 (w.heap.size) t0 l0)/\Hid (ar w0 (w.heap.size+1) t1 l1)/\Hid (ar w0 (w.heap.size+1+1) t2 l2)/\G w0:=⟨e.1,e.2.1,e.2.2.1,QTr.out h _ e.2.2.2⟩;n w0 (QLz.out h) k (QCe.out k))
def AV (w:World)(t0:TypeId)(l0:List Value)(t1:TypeId)(l1:List Value)(t2:TypeId)(l2:List Value)(t3:TypeId)(l3:List Value){C:World->Prop}[∀W,QCe (Hid (Bw w W)/\Hid (ar W (w.heap.size) t0 l0)/\Hid (ar W (w.heap.size+1) t1 l1)/\Hid (ar W (w.heap.size+1+1) t2 l2)/\Hid (ar W (w.heap.size+1+1+1) t3 l3)/\True) (C W)]:∃W,((((w.alloc (.cells l0.toArray t0)).alloc (.cells l1.toArray t1)).alloc (.cells l2.toArray t2)).alloc (.cells l3.toArray t3))=W/\(Hid (Bw w W)/\Hid (ar W (w.heap.size) t0 l0)/\Hid (ar W (w.heap.size+1) t1 l1)/\Hid (ar W (w.heap.size+1+1) t2 l2)/\Hid (ar W (w.heap.size+1+1+1) t3 l3)/\True)/\C W:=
 have h:Hid (Bw w ((((w.alloc (.cells l0.toArray t0)).alloc (.cells l1.toArray t1)).alloc (.cells l2.toArray t2)).alloc (.cells l3.toArray t3)))/\Hid (ar ((((w.alloc (.cells l0.toArray t0)).alloc (.cells l1.toArray t1)).alloc (.cells l2.toArray t2)).alloc (.cells l3.toArray t3)) (w.heap.size) t0 l0)/\Hid (ar ((((w.alloc (.cells l0.toArray t0)).alloc (.cells l1.toArray t1)).alloc (.cells l2.toArray t2)).alloc (.cells l3.toArray t3)) (w.heap.size+1) t1 l1)/\Hid (ar ((((w.alloc (.cells l0.toArray t0)).alloc (.cells l1.toArray t1)).alloc (.cells l2.toArray t2)).alloc (.cells l3.toArray t3)) (w.heap.size+1+1) t2 l2)/\Hid (ar ((((w.alloc (.cells l0.toArray t0)).alloc (.cells l1.toArray t1)).alloc (.cells l2.toArray t2)).alloc (.cells l3.toArray t3)) (w.heap.size+1+1+1) t3 l3)/\True:=⟨aj (((zl.alloc zj _).alloc zj _).alloc zj _),aj ((((ar.new _ _ _).alloc _).alloc _).alloc _),aj (((ar.newAt _ _ _ zm).alloc _).alloc _),aj ((ar.newAt _ _ _ zm).alloc _),aj (ar.newAt _ _ _ zm),trivial⟩
 ⟨_,rfl,h,QCe.out h⟩
end
section
variable {P:Program} {ops:Array Oper} {Q:Exit->Act->World->Prop} {F G C:World->Prop} {J:Nat->Bool} {rest:List (Nat×Bool)} {i:Nat} {o:Oper} {a a':Act} {w w1 W:World} {K:Act->World->Prop} {p c m:Prop}
def fH :Nat->Nat->List (Nat×Bool)
 |0,_=>[]
 |n+1,c=>(c%256/2,c%2==1)::fH n (c/256)
def fT (j:Nat){id:Nat}(h:p)[QTr p w G](plan:List (Nat×Bool))(n:bH P ops Q G (λi=>Nat.blt i j) plan a w.drew)
 (hm:P.follows .mixedOrders=true:=by kernel_rfl) (hs:Region.noSelect ops=true:=by kernel_rfl) (hl:plan.length=ops.size:=by rfl)
 (hok:uj .any ops (λi=>Nat.blt i j) plan (Array.replicate ops.size false)=true:=by kernel_rfl)
 (hQ:∀(o:Oper) c a v w,Q (.panic c) (a.put o.dst v) w->Q (.panic c) a w:=by exact λo c a v w=>by cases o.dst<;>exact id):(Code.region id ops true).wp P Q a w:=
 fh G _ plan hm hs hl hok hQ (QTr.out h _ ((Below.refl _ _).drew)) n
def qRo {v:Value}(h:bH P ops Q F J rest (a.put o.dst v) w)(ho:ops.toList[i]?=some o:=by rfl)(hw:Region.wanted o (yielded ops a.tmps)=true:=by rfl)
 (hy:∀w',F w'->(execOp a.eval o).run P w'=.ok (.value v) w':=by(intro w' hw';have hw':=qC hw';go_simp;try with_reducible rfl)):bH P ops Q F J ((i,true)::rest) a w:=
 Ps ho hw hy h
def qOp (n:∀K:Act->World->Prop,(∀a' w',(J i=true->F w')->bH P ops Q F J rest a' w'->K a' w')->o.wp P a w K Q)(ho:ops.toList[i]?=some o:=by rfl)
 (hw:Region.wanted o (yielded ops a.tmps)=true:=by rfl):bH P ops Q F J ((i,false)::rest) a w:=aM ho hw n
def cG {p q:Prop}(k:q)(h:q->p:=by(intro k;(try simp only[UU]);(repeat((first|refine qRo ?_|refine axV rfl rfl ?_|refine aip rfl rfl (λ_=>QIm.out ae) ?_|refine qSk ae rfl rfl ?_);(try simp only[UU])));exact k)):p:=h k
def qSk (h:p)[QTr p w G][QIm (G w.drew) (F w.drew)](ho:ops.toList[i]?=some o)(hw:Region.wanted o (yielded ops a.tmps)=false)(n:bH P ops Q F J rest (a.put o.dst undef) w.drew):bH P ops Q F J ((i,false)::rest) a w.drew:=
 aip ho hw (λ_=>QIm.out (QTr.out h w.drew ((Below.refl _ _).drew))) n
def cV (h:p)[QDr w1 w][QTr p w G][∀W,QIm (G W) (F W)]{c:Prop}(hc:c)(n:∀W,G W->bH P ops Q F J rest a' W)(ho:ops.toList[i]?=some o:=by rfl)
 (hw:Region.wanted o (yielded ops a.tmps)=true:=by rfl)
 (hh:c->∀K:Act->World->Prop,(∀W,Bw w1 W->K a' W)->o.wp P a w1 K Q:=by(intro hc K hK;go_simp;with_reducible refine(hc).mono ?_;rintro e W ⟨rfl,hq⟩;exact hK _ hq)):
 bH P ops Q F J ((i,false)::rest) a w1:=
 aM ho hw λK hK=>hh hc K λW k=>hK _ _ (λ_=>QIm.out (QTr.out h W (QDr.back k))) (n W (QTr.out h W (QDr.back k)))
def xc {b:Prop}(hK:∀a' w',(b->F w')->bH P ops Q F J rest a' w'->K a' w')(k:Bw w1 W)(h:p)[QDr w1 w][QTr p w G][∀W,QIm (G W) (F W)](n:G W->bH P ops Q F J rest a' W):K a' W:=
 hK _ _ (λ_=>QIm.out (QTr.out h W (QDr.back k))) (n (QTr.out h W (QDr.back k)))
def NW (w:World)(t:TypeId)(l:List Value)(W:World):Prop:=ar W w.heap.size t l/\Bw w W
def nw3 {w:World}{t:TypeId}{l:List Value}:NW w t l (w.drew.alloc (.cells l.toArray t)):=⟨ar.newAt _ _ _ rfl,((Below.refl _ _).drew).alloc (Nat.le_refl _) _⟩
def nw4 {w:World}{t:TypeId}{l:List Value}:NW w t l (w.drew.alloc (.cells l.toArray t)).drew:=⟨ar.drew (ar.newAt _ _ _ rfl),(((Below.refl _ _).drew).alloc (Nat.le_refl _) _).drew⟩
def vG (t:TypeId)(l:List Value)(h:p)[QDr w1 w][QTr p w G][∀W,QIm (G W) (F W)][QLz p m](n:∀W,m->Hid (ar W w.heap.size t l)/\G W->bH P ops Q F J rest a' W)(ho:ops.toList[i]?=some o:=by rfl)
 (hw:Region.wanted o (yielded ops a.tmps)=true:=by rfl)
 (hh:∀K:Act->World->Prop,(∀W,NW w t l W->K a' W)->o.wp P a w1 K Q:=by(intro K hK;go_simp;first|exact hK _ iX|exact hK _ iY|exact hK _ nw3|exact hK _ nw4)):
 bH P ops Q F J ((i,false)::rest) a w1:=
 aM ho hw λK hK=>hh K λW k=>hK _ _ (λ_=>QIm.out (QTr.out h W k.2)) (n W (QLz.out h) ⟨aj k.1,QTr.out h W k.2⟩)
def fR (h:p)[QCe p c](n:c->Q .normal a w):bH P ops Q F J [] a w:=n (QCe.out h)
end
def SZ {a b:Nat}(h:b<a):dx a b=1:=by unfold dx;rw[if_neg zo,if_pos h]
def Ta {a b:Nat}(h:a<=b):dx a b<=0:=by unfold dx;split;decide;rw[if_neg zo];decide
def aol (n:Nat):WW^(n+1)=WW^n*WW:=Nat.pow_succ _ _
def CM {By q n:Nat}(hB:By<WW^n)(hq:q<WW):By*q<WW^(n+1):=by
 rw[aol];rcases Nat.eq_zero_or_pos q with h|h
 . subst h;rw[Nat.mul_zero];exact Nat.mul_pos (dU n) kg
 . exact Nat.mul_lt_mul'' hB hq
def ahf (a:Option Addr)(L iP b2 o2 n cap2 By pb po wY P q:Nat)(w:World)(hn:n<=1099511627774)(Cg:n<=cap2)(hpc:n+1<=wY)(hy:dO w b2 o2 n By)(hB:By<WW^n)(hBp:0<By)
 (hp:dO w pb po (n+1) P) (hP:P<WW^(n+1)) (hq:P/By<q) (hqW:q<WW):
 Cl 321 #[.agg #[.slice a L iP,.slice (some ⟨b2,o2,none⟩) n cap2],.slice (some ⟨pb,po,none⟩) (n+1) wY,.int .u64 (q:Int)] w λe w'=>∃mb,
  e=.returned (.tuple #[.int .u64 ((P/By:Nat):Int),.slice (some ⟨mb,0,none⟩) (n+1) (n+1)])/\(ar w' mb 185 (bI (n+1) (dg (By* (P/By))))/\w.heap.size<=mb)/\Bw w w':=by
 obtain⟨Hy,HB,YP,Hp,HP⟩:=gT hy hB hBp hp hP;obtain⟨D,hD⟩:=aB (P/By);have HD:=aj hD;rw[hD]at hq⊢;rw[ke]at hqW;have lpb:pb<w.heap.size:=World.block_lt_of_cell? w _ (hp 0 zo);have lu:0<n->b2<w.heap.size:=λh=>World.block_lt_of_cell? w _ (hy 0 h);have hn0:0<n:=by
  rcases Nat.eq_zero_or_pos n with h|h
  . subst h;simp at hB;omega
  . exact h
 obtain⟨Lpb,Lb2⟩:=aK lpb (lu hn0);clear hy hB hBp hp hP hD lpb lu;have hmk:=CI ((n:Int)+1) (n+1) zo zo;obtain⟨W,cE,ae,ak⟩:=il w 322 [.slice a L iP,.slice (some ⟨b2,o2,none⟩) n cap2];go_enter Tryz.func321,Tryz.ntmps321;go_wp2_with fail;go_loopw[2,8] (λqv _ wr=>∃k:Nat,D<k/\k<=q/\qv=.int .u64 (k:Int)/\ar wr w.heap.size 322 [.slice a L iP,.slice (some ⟨b2,o2,none⟩) n cap2]/\Bw w wr) (λqv _ _=>(intOf qv).toNat);case atStart=>exact⟨q,hq,Nat.le_refl _,rfl,ae.2.1.out,ae.1.out⟩
 case round=>
  skip
  obtain⟨k,hk1,hk2,rfl,px,pb'⟩:=hrel;obtain⟨Hx,Hb⟩:=aK px pb';clear px pb';obtain⟨m,rfl⟩:∃m,k=m+1:=⟨k-1,by omega⟩;have hm:IntKind.u64.wrap (((m+1:Nat):Int)-1)=(m:Int):=by rw[IntKind.wrap_u64];omega
  obtain⟨x0,x1⟩:=Hx.out.c2;have hmW:m<WW:=by rw[ke];omega
  have HmW:=aj hmW;clear hmW;have lx:=Hx.out.lt;have sz:=Hb.out.size;obtain⟨W2,hW2⟩:=aB (wr.alloc (.cells (bI (n+1) λ_=>0).toArray 185));have hb2:Bw wr W2:=by rw[<-hW2];exact zl
  have fw:Hid (ar W2 wr.heap.size 185 (bI (n+1) λ_=>0)):=by rw[<-hW2];exact ar.new _ _ _
  replace Hx:=aj (Hx.out.below hb2);have fX:=aj (aI Hb.out hb2);have sW2:W2.heap.size=wr.heap.size+1:=by rw[<-hW2];simp
  have aCo:=aj sW2;clear sW2 hb2;obtain⟨y0,y1⟩:=Hx.out.c2;go_wp2_with fail;refine(OS wr.heap.size (n+1) 0 (n+1) (n+1) (λ_=>0) 0 b2 o2 n cap2 By m W2 zo zo fw.out zo (λj _=>by unfold dg;rw[Nat.zero_div];rfl) (Hy.out.below fX.out) HB.out (by have:=Lb2.out;omega) HmW.out).mono ?_;rintro e w3 ⟨rfl,qB,qg⟩
  have eB:bI (n+1) (gV (λ_=>0) 0 (n+1) (dg (0+By*m)))=bI (n+1) (dg (By*m)):=lD (λj hj=>by
   have:=Ky (λ_=>0) 0 (n+1) (dg (0+By*m)) j hj
   simpa only[Nat.zero_add]using this)
  rw[eB]at qB;obtain⟨lG,ZV⟩:=aK qB qg;have uW:=CM HB.out HmW.out;have Al:=jM uW;obtain⟨Gf,zu⟩:=aK uW (Hx.out.grown qg (λh=>by have:=Option.some.inj h;omega));have tq:Hid (dO w3 pb po (n+1) P):=(Hp.out.below fX.out).grown qg (λh=>by have:=Option.some.inj h;have:=Lpb.out;omega);have fV:=aj (fX.out.grown qg (by have:=fX.out.size;omega) (λj e=>by have:=Option.some.inj e;omega));clear qB qg eB uW x0 x1 y0 y1;obtain⟨x0,x1⟩:=zu.out.c2;go_wp2_with fail;refine(mN wr.heap.size 0 (n+1) (n+1) (By*m) w3 zo (Nat.le_refl _) (lG.out.lim _ (Nat.le_refl _)) Gf.out).mono ?_;rintro e w4 ⟨rfl,rfl⟩;go_wp2_with fail;refine(CF wr.heap.size 0 (ln (By*m)) (n+1) (By*m) pb po (n+1) wY P w3 zo Al (lG.out.lim _ Al) (eU _) zo hpc tq.out HP.out).mono ?_;rintro e w5 ⟨rfl,di⟩;obtain⟨gW,DX,oM⟩:=cw di (zu.out.below di) (lG.out.below di);clear di x0 x1;obtain⟨x0,x1⟩:=DX.out.c2;have kZ:=Nat.div_add_mod P By;have Am:=Nat.mod_lt P YP.out;rw[HD.out]at kZ;by_cases hle:By*m<=P
  . have Vo:D=m:=by
     have h1:m<=D:=by rw[<-HD.out];exact(Nat.le_div_iff_mul_le YP.out).2 (by rw[Nat.mul_comm];exact hle)
     omega
    subst Vo;have nZ:=Ta hle;clear kZ Am hle;generalize dx (By*D) P=c at*;go_wp2;refine bodyPost_ret (v:=.tuple #[.int .u64 (D:Int),.slice (some ⟨wr.heap.size,0,none⟩) (n+1) (n+1)]) (by simp[results,Tryz.results321,go_sem]) rfl ⟨wr.heap.size,rfl,⟨oM.out,sz⟩,aI fV.out gW.out⟩
  . have hlt:D<m:=by
     rcases Nat.lt_or_ge D m with h|h
     . exact h
     . exact absurd (Nat.le_trans (Nat.mul_le_mul_left By h) zo) hle
    have nZ:=SZ (a:=By*m) (b:=P) zo;clear kZ Am;rw[nZ];go_wp2;go_roundw;case rel=>exact⟨m,hlt,by omega,by go_num,DX.out,aI fV.out gW.out⟩
    case measure=>simp[intOf]
def _root_.Go.RowKit.Below.thenGrown {w a c:World}{b:Nat}(h:Bw w a)(k:a.grownBy c (some b)):w.grownBy c (some b):=
 ⟨k.os.trans h.os,k.tape.trans h.tape,k.output.trans h.output,Nat.le_trans h.size k.size,λi hi hn=>(k.block i (Nat.lt_of_lt_of_le hi h.size) hn).trans (h.block i hi)⟩
def Wn (w:World)(b o:Nat)(cs:List Value):Prop:=∀j (h:j<cs.length),w.cell? ⟨b,o+j,none⟩=some cs[j]
def Wn.cell {w:World}{b o:Nat}{cs:List Value}(h:Wn w b o cs)(j:Nat)(hj:j<cs.length):w.cell? ⟨b,o+j,none⟩=some cs[j]:=h j hj
def Wn.below {w w':World}{b o:Nat}{cs:List Value}(h:Wn w b o cs)(hb:Bw w w'):Wn w' b o cs:=λj hj=>cell_later hb (h j hj)
instance {w :World} {b o:Nat} {cs:List Value}:QTr (Wn w b o cs) w (λW=>Wn W b o cs):=⟨λh _ k=>Wn.below h k⟩
instance {w :World} {b o:Nat} {x:Value}:QCe (Wn w b o [x]) (w.cell? ⟨b,o,none⟩=some x):=⟨λh=>h.cell 0 zm⟩
def aq7 (h lo y:Nat)(w:World)(hy1:9223372036854775808<=y)(hy:y<WW)(hh:h<y)(hl:lo<WW):
 Cl 320 #[.int .u64 (h:Int),.int .u64 (lo:Int),.int .u64 (y:Int)] w λe w'=>(∃r,e=.returned (.tuple #[.int .u64 (((h*WW+lo)/y:Nat):Int),.int .u64 r]))/\Bw w w':=by
 rcases Nat.eq_zero_or_pos h with h0|h0
 . subst h0;refine(aq9 lo y w zo hy hl).mono ?_;rintro e w' ⟨r,rfl,hb⟩;refine⟨⟨r,?_⟩,hb⟩;rw[Nat.zero_mul,Nat.zero_add]
 . refine(aq8 h lo y w hy1 hy hh hl h0).mono ?_;rintro e w' ⟨r,he,hb⟩;exact⟨⟨r,he⟩,hb⟩
def take_at {R By at' n:Nat}(hR:R<WW^(at'+n+1))(j:Nat):
 gV (dg R) at' (n+1) (dg (R/WW^at'-By* (R/WW^at'/By))) j=dg (R-By* (R/WW^at'/By) *WW^at') j:=by
 obtain⟨P,hP⟩:=aB (R/WW^at');obtain⟨lo,hlo⟩:=aB (R%WW^at');obtain⟨S,hS⟩:=aB (By* (P/By));have hl:lo<WW^at':=by rw[<-hlo];exact Nat.mod_lt _ (dU _)
 have e:=Nat.div_add_mod R (WW^at');rw[hP,hlo]at e;have hSP:S<=P:=by rw[<-hS];exact Nat.mul_div_le _ _
 have hPn:P<WW^(n+1):=by rw[<-hP];refine Nat.div_lt_of_lt_mul ?_;rw[<-Nat.pow_add];exact hR
 rw[hP,hS];have e1:R=P*WW^at'+lo:=by rw[<-e,Nat.mul_comm]
 have e2:R-S*WW^at'=(P-S) *WW^at'+lo:=by have:S*WW^at'<=P*WW^at':=Nat.mul_le_mul_right _ hSP;rw[e1,Nat.sub_mul];omega
 rw[e2,aco _ _ _ _ hl];unfold gV;by_cases h1:j<at'
 . rw[if_neg zo,if_pos h1,e1,aco _ _ _ _ hl,if_pos h1]
 . rw[if_neg h1];by_cases h2:j<at'+(n+1)
   . rw[if_pos zo]
   . rw[if_neg zo,ww (k:=at'+n+1) hR zo,ww (k:=n+1) (Nat.lt_of_le_of_lt (Nat.sub_le _ _) hPn) zo]
def aq6 (b L iP R b2 o2 n cap2 By at':Nat)(w:World)(hL:L<=1099511627775)(hLc:L<=iP)(hn:0<n)(Cg:n<=cap2)(hB:ar w b 185 (bI L (dg R)))(hy:dO w b2 o2 n By)(Nl:By<WW^n)(htop:9223372036854775808<=dg By (n-1))
 (hR:R<By*WW^(at'+1)) (hat:at'+n+1<=L) (hne:b2≠b):
 Cl 304 #[.agg #[.slice (some ⟨b,0,none⟩) L iP,.slice (some ⟨b2,o2,none⟩) n cap2],af (at':Int)] w λe w'=>
  e=.returned (.int .u64 ((R/WW^at'/By:Nat):Int))/\ar w' b 185 (bI L (dg (R-By* (R/WW^at'/By) *WW^at')))/\w.grownBy w' (some b):=by
 have adg:0<By:=by
  rcases Nat.eq_zero_or_pos By with h|h
  . subst h;unfold dg at htop;simp at htop
  . exact h
 have Uk:R<WW^(at'+n+1):=by refine Nat.lt_of_lt_of_le hR ?_;rw[show WW^(at'+n+1)=WW^n*WW^(at'+1)by rw[<-Nat.pow_add];congr 1;omega];exact Nat.mul_le_mul_right _ (Nat.le_of_lt Nl)
 have htake:=λj=>take_at (R:=R) (By:=By) (at':=at') (n:=n) Uk j;obtain⟨P,hP⟩:=aB (R/WW^at');have hPB:P<By*WW:=by rw[<-hP];refine Nat.div_lt_of_lt_mul ?_;rw[<-Nat.mul_assoc,Nat.mul_comm _ By,Nat.mul_assoc,Nat.mul_comm (WW^at'),<-Nat.pow_succ'];exact hR
 have hPW:P<WW^(n+1):=by rw[<-hP];refine Nat.div_lt_of_lt_mul ?_;rw[<-Nat.pow_add];exact Uk
 have IY:∀j,dg P j=dg R (at'+j):=λj=>by rw[<-hP];exact MM R at' j
 obtain⟨G,hG⟩:=aB (if dg P n<dg By (n-1)then(dg P n*WW+dg P (n-1))/dg By (n-1)else WW-1);have hge:=asJ (P:=P) (by':=By) hn hPB zo Nl;rw[hG]at hge;have UF:=kj By (n-1);have Ur:=kj P (n-1);obtain⟨top,VO⟩:=aB (dg P n);obtain⟨T0,hT0⟩:=aB (dg P (n-1));obtain⟨b1,hb1⟩:=aB (dg By (n-1));rw[VO,hT0,hb1]at hG;rw[hb1]at htop UF;rw[hT0]at Ur;have hlb:=hB.lt;have at6:b2<w.heap.size:=World.block_lt_of_cell? w _ (hy 0 hn);have Tc:w.cell? ⟨b,at'+n,none⟩=some (.int .u64 (top:Int)):=by rw[hB.cell,iq _ _ _ zo,<-VO,IY]
 have SS:w.cell? ⟨b,at'+n-1,none⟩=some (.int .u64 (T0:Int)):=by rw[hB.cell,iq _ _ _ zo,<-hT0,IY];congr 4;omega
 have SU:w.cell? ⟨b2,o2+(n-1),none⟩=some (.int .u64 (b1:Int)):=by rw[<-hb1];exact hy _ zo
 have Ap:dO w b at' (n+1) P:=λj hj=>by rw[hB.cell,iq _ _ _ zo,IY]
 have i1:=Kh L iP (at'+n) ((at':Int)+(n:Int)) (rfl:(some ⟨b,0,none⟩:Option Addr)=_) zo zo;have i2:=Kh L iP (at'+n-1) ((at':Int)+(n:Int)-1) (rfl:(some ⟨b,0,none⟩:Option Addr)=_) zo zo;have i3:=Kh n cap2 (n-1) ((n:Int)-1) (rfl:(some ⟨b2,o2,none⟩:Option Addr)=_) zo zo;rw[Nat.mul_one,Nat.zero_add]at i1 i2;rw[Nat.mul_one]at i3;have hsl:at'+n+1-at'=n+1:=by omega
 have hmk:=CI ((n:Int)+1) (n+1) zo zo;obtain⟨ZB,Hy,vO,Lh,yR,HP,ZY,YW,Mi,DK,Hne,Ls⟩:=ie hB hy Nl adg hPW hP hge hG htake Ap hne IY;obtain⟨Ib,alf,Zn⟩:=cw htop UF Ur;obtain⟨D,hD⟩:=aB (P/By);have HD:=aj hD;rw[hP,hD];rw[hD]at hge;have QF:Hid (Wn w b (at'+n) [.int .u64 (top:Int)]):=λj hj=>by
  obtain rfl:j=0:=by simp at hj;omega
  exact Tc
 have LI:Hid (Wn w b (at'+n-1) [.int .u64 (T0:Int)]):=λj hj=>by
  obtain rfl:j=0:=by simp at hj;omega
  exact SS
 have LJ:Hid (Wn w b2 (o2+(n-1)) [.int .u64 (b1:Int)]):=λj hj=>by
  obtain rfl:j=0:=by simp at hj;omega
  exact SU
 clear hB hy Nl adg hPW hP hge hG htake Ap hne htop UF Ur hD hPB IY Uk hR VO hT0 hb1 Tc SS SU;obtain⟨W,cE,ae,ak⟩:=il w 322 [.slice (some ⟨b,0,none⟩) L iP,.slice (some ⟨b2,o2,none⟩) n cap2];replace QF:=aj (QF.out.below ae.1.out);replace LI:=aj (LI.out.below ae.1.out);replace LJ:=aj (LJ.out.below ae.1.out);have Tc:W.cell? ⟨b,at'+n,none⟩=some (.int .u64 (top:Int)):=QF.out.cell 0 zm;have SS:W.cell? ⟨b,at'+n-1,none⟩=some (.int .u64 (T0:Int)):=LI.out.cell 0 zm;have SU:W.cell? ⟨b2,o2+(n-1),none⟩=some (.int .u64 (b1:Int)):=LJ.out.cell 0 zm;go_enter Tryz.func304,Tryz.ntmps304;by_cases hlt:top<b1
 . have bA:(top:Int)<(b1:Int):=by omega
   have EB:=λW=>aq7 top T0 b1 W Ib.out alf.out hlt Zn.out;have zU:=YW.out;rw[if_pos hlt]at zU;rw[zU]at EB;have rO:Hid (G<WW):=by
    show _<_
    rw[<-zU];refine Nat.div_lt_of_lt_mul ?_;have h1:=Zn.out;have h2:(top+1) *WW<=b1*WW:=Nat.mul_le_mul_right _ hlt;rw[Nat.add_mul,Nat.one_mul]at h2;omega
   have Dt:=aj EB;clear EB zU;go_wp2_with fail;have k1:IntKind.i64.wrap ((at':Int)+(n:Int))=(at':Int)+(n:Int):=by rw[IntKind.wrap_i64];omega
   have k2:IntKind.i64.wrap ((at':Int)+(n:Int)-1)=(at':Int)+(n:Int)-1:=by rw[IntKind.wrap_i64];omega
   have k3:IntKind.i64.wrap ((n:Int)-1)=(n:Int)-1:=by rw[IntKind.wrap_i64];omega
   have Hx:=ae.2.1;have Hb:=ae.1;obtain⟨ae,ak⟩:=qZ (Hx.an<|LI.an<|LJ.an trivial);have ae:=Hb.an ae;refine fT 999 ae (fH 20 0x272523211e1d1b19171513110f0d0b0907050301) ?_;refine cG ?_;refine qOp λK hK=>?_;go_simp;with_reducible refine(Dt.out _).mono ?_
   rintro e w1 ⟨⟨r,rfl⟩,hq⟩;refine xc hK hq ae λae=>?_;clear hK K hq;refine cG ?_;refine fR ae λak=>?_;have XV:=ae.1.out.size;have lx:=ae.2.1.out.lt;obtain⟨W2,hW2⟩:=aB (w1.alloc (.cells (bI (n+1) λ_=>0).toArray 185));have hb2:Bw w1 W2:=by rw[<-hW2];exact zl
   have fw:Hid (ar W2 w1.heap.size 185 (bI (n+1) λ_=>0)):=by rw[<-hW2];exact ar.new _ _ _
   obtain⟨fX,zr⟩:=aK (aI ae.1.out hb2) (ae.2.1.out.below hb2);clear hb2;obtain⟨y0,y1⟩:=zr.out.c2;go_wp2_with fail;refine(OS w1.heap.size (n+1) 0 (n+1) (n+1) (λ_=>0) 0 b2 o2 n cap2 By G W2 zo zo fw.out zo (λj _=>by unfold dg;rw[Nat.zero_div];rfl) (Hy.out.below fX.out) vO.out zo rO.out).mono ?_;rintro e w3 ⟨rfl,qB,qg⟩
   have eB:bI (n+1) (gV (λ_=>0) 0 (n+1) (dg (0+By*G)))=bI (n+1) (dg (By*G)):=lD (λj hj=>by
    have:=Ky (λ_=>0) 0 (n+1) (dg (0+By*G)) j hj
    simpa only[Nat.zero_add]using this)
   rw[eB]at qB;have lG:=aj qB;have uW:=CM vO.out rO.out;have Al:=jM uW;obtain⟨Gf,zu⟩:=aK uW (zr.out.grown qg (λh=>by have:=Option.some.inj h;omega));have tq:Hid (dO w3 b at' (n+1) P):=(DK.out.below fX.out).grown qg (λh=>by have:=Option.some.inj h;omega);obtain⟨Qv,fV⟩:=aK ((ZB.out.below fX.out).grown qg (λh=>by have:=Option.some.inj h;omega)) (fX.out.grown qg (by have:=fX.out.size;omega) (λj e=>by have:=Option.some.inj e;omega));clear qB qg eB uW y0 y1;obtain⟨x0,x1⟩:=zu.out.c2;go_wp2_with fail;refine(mN w1.heap.size 0 (n+1) (n+1) (By*G) w3 zo (Nat.le_refl _) (lG.out.lim _ (Nat.le_refl _)) Gf.out).mono ?_;rintro e w4 ⟨rfl,rfl⟩;go_wp2_with fail;refine(CF w1.heap.size 0 (ln (By*G)) (n+1) (By*G) b at' (n+1) (iP-at') P w3 zo Al (lG.out.lim _ Al) (eU _) zo zo tq.out yR.out).mono ?_;rintro e w5 ⟨rfl,di⟩;obtain⟨gW,DX,xw,je⟩:=dv di (zu.out.below di) (lG.out.below di) (Qv.out.below di);have rN:=aj (aI fV.out gW.out);clear di x0 x1;obtain⟨x0,x1⟩:=DX.out.c2;by_cases hle:By*G<=P
   . have IM:D=G:=by
      have h1:G<=D:=by rw[<-HD.out];exact(Nat.le_div_iff_mul_le Lh.out).2 (by rw[Nat.mul_comm];exact hle)
      have h2:=ZY.out;rw[HD.out]at h2;omega
     have Bh:=aj IM;have nZ:=Ta hle;have Dz:=aj hle;clear IM hle;obtain⟨c,hc⟩:=aB (dx (By*G) P);rw[hc]at nZ;rw[hc];clear hc;have atE:¬0<c:=by omega
     go_wp2_with fail;refine(Ko b L at' (n+1) (iP-at') (dg R) P w1.heap.size 0 (n+1) (n+1) (By*G) w5 zo zo je.out zo (λj _=>(Ls.out j).symm) (xw.out.lim _ (Nat.le_refl _)) (CM vO.out (by first|exact rO.out|exact FZ.out)) (by have:=ae.1.out.size;omega) Dz.out yR.out).mono ?_;rintro e w6 ⟨rfl,pP,vH⟩
     have uR:bI L (gV (dg R) at' (n+1) (dg (P-By*G)))=bI L (dg (R-By*G*WW^at')):=lD (λj _=>by
      have h:=Mi.out j;rw[HP.out,HD.out,Bh.out]at h
      exact h)
     rw[uR]at pP;obtain⟨ql,xG⟩:=aK pP vH;clear pP vH uR;go_wp2;refine bodyPost_ret (v:=.int .u64 (D:Int)) (by have hh:=Bh.out;simp[results,Tryz.results304,go_sem,hh]) rfl ⟨rfl,by rw[Bh.out];exact ql.out,Below.thenGrown rN.out xG.out⟩
   . have nZ:=SZ (a:=By*G) (b:=P) zo;have hDl:P/By<G:=by
      rcases Nat.lt_or_ge (P/By) G with h|h
      . exact h
      . exact absurd (Nat.le_trans (Nat.mul_le_mul_left By h) (Nat.mul_div_le _ _)) hle
     have Ga:=aj hDl;have FZ:Hid (D<WW):=by have h1:=rO.out;have h2:=Ga.out;rw[HD.out]at h2;exact Nat.lt_trans h2 h1
     clear hDl hle;rw[nZ];clear nZ;go_wp2_with fail;refine(ahf (some ⟨b,0,none⟩) L iP b2 o2 n cap2 By b at' (iP-at') P G w5 zo Cg zo (Hy.out.below rN.out) vO.out Lh.out (tq.out.below gW.out) yR.out Ga.out rO.out).mono ?_;rintro e w7 ⟨mb,rfl,⟨qM,lmb⟩,qb⟩;have PN:=rN.out.size;replace xw:=aj qM;replace je:=aj (je.out.below qb);replace rN:=aj (aI rN.out qb);rw[HD.out]at xw;rw[HD.out];have XT:=je.out.lt;clear qM qb x0 x1;go_wp2_with fail;refine(Ko b L at' (n+1) (iP-at') (dg R) P mb 0 (n+1) (n+1) (By*D) w7 zo zo je.out zo (λj _=>(Ls.out j).symm) (xw.out.lim _ (Nat.le_refl _)) (CM vO.out (by first|exact rO.out|exact FZ.out)) (by have:=ae.1.out.size;omega) (by rw[<-HD.out];exact Nat.mul_div_le _ _) yR.out).mono ?_;rintro e w6 ⟨rfl,pP,vH⟩
     have uR:bI L (gV (dg R) at' (n+1) (dg (P-By*D)))=bI L (dg (R-By*D*WW^at')):=lD (λj _=>by
      have h:=Mi.out j;rw[HP.out,HD.out]at h
      exact h)
     rw[uR]at pP;obtain⟨ql,xG⟩:=aK pP vH;clear pP vH uR;go_wp2;refine bodyPost_ret (results_tmp rfl _ _ _) rfl ⟨rfl,ql.out,Below.thenGrown rN.out xG.out⟩
 . have bA:¬(top:Int)<(b1:Int):=by omega
   have zU:=YW.out;rw[if_neg hlt,ke]at zU;have asT:18446744073709551615=G:=zU;subst asT;have rO:Hid (18446744073709551615<WW):=by show _<_;rw[ke];decide
   clear zU;have XV:=ae.1.out.size;have lx:=ae.2.1.out.lt;obtain⟨W2,hW2⟩:=aB (W.alloc (.cells (bI (n+1) λ_=>0).toArray 185));have hb2:Bw W W2:=by rw[<-hW2];exact zl
   have fw:Hid (ar W2 W.heap.size 185 (bI (n+1) λ_=>0)):=by rw[<-hW2];exact ar.new _ _ _
   obtain⟨fX,zr⟩:=aK (aI ae.1.out hb2) (ae.2.1.out.below hb2);clear hb2;obtain⟨y0,y1⟩:=zr.out.c2;go_wp2_with fail;refine(OS W.heap.size (n+1) 0 (n+1) (n+1) (λ_=>0) 0 b2 o2 n cap2 By 18446744073709551615 W2 zo zo fw.out zo (λj _=>by unfold dg;rw[Nat.zero_div];rfl) (Hy.out.below fX.out) vO.out zo rO.out).mono ?_;rintro e w3 ⟨rfl,qB,qg⟩
   have eB:bI (n+1) (gV (λ_=>0) 0 (n+1) (dg (0+By*18446744073709551615)))=bI (n+1) (dg (By*18446744073709551615)):=lD (λj hj=>by
    have:=Ky (λ_=>0) 0 (n+1) (dg (0+By*18446744073709551615)) j hj
    simpa only[Nat.zero_add]using this)
   rw[eB]at qB;have lG:=aj qB;have uW:=CM vO.out rO.out;have Al:=jM uW;obtain⟨Gf,zu⟩:=aK uW (zr.out.grown qg (λh=>by have:=Option.some.inj h;omega));have tq:Hid (dO w3 b at' (n+1) P):=(DK.out.below fX.out).grown qg (λh=>by have:=Option.some.inj h;omega);obtain⟨Qv,fV⟩:=aK ((ZB.out.below fX.out).grown qg (λh=>by have:=Option.some.inj h;omega)) (fX.out.grown qg (by have:=fX.out.size;omega) (λj e=>by have:=Option.some.inj e;omega));clear qB qg eB uW y0 y1;obtain⟨x0,x1⟩:=zu.out.c2;go_wp2_with fail;refine(mN W.heap.size 0 (n+1) (n+1) (By*18446744073709551615) w3 zo (Nat.le_refl _) (lG.out.lim _ (Nat.le_refl _)) Gf.out).mono ?_;rintro e w4 ⟨rfl,rfl⟩;go_wp2_with fail;refine(CF W.heap.size 0 (ln (By*18446744073709551615)) (n+1) (By*18446744073709551615) b at' (n+1) (iP-at') P w3 zo Al (lG.out.lim _ Al) (eU _) zo zo tq.out yR.out).mono ?_;rintro e w5 ⟨rfl,di⟩;obtain⟨gW,DX,xw,je⟩:=dv di (zu.out.below di) (lG.out.below di) (Qv.out.below di);have rN:=aj (aI fV.out gW.out);clear di x0 x1;obtain⟨x0,x1⟩:=DX.out.c2;by_cases hle:By*18446744073709551615<=P
   . have IM:D=18446744073709551615:=by
      have h1:18446744073709551615<=D:=by rw[<-HD.out];exact(Nat.le_div_iff_mul_le Lh.out).2 (by rw[Nat.mul_comm];exact hle)
      have h2:=ZY.out;rw[HD.out]at h2;omega
     have Bh:=aj IM;have nZ:=Ta hle;have Dz:=aj hle;clear IM hle;obtain⟨c,hc⟩:=aB (dx (By*18446744073709551615) P);rw[hc]at nZ;rw[hc];clear hc;have atE:¬0<c:=by omega
     go_wp2_with fail;refine(Ko b L at' (n+1) (iP-at') (dg R) P W.heap.size 0 (n+1) (n+1) (By*18446744073709551615) w5 zo zo je.out zo (λj _=>(Ls.out j).symm) (xw.out.lim _ (Nat.le_refl _)) (CM vO.out (by first|exact rO.out|exact FZ.out)) (by have:=ae.1.out.size;omega) Dz.out yR.out).mono ?_;rintro e w6 ⟨rfl,pP,vH⟩
     have uR:bI L (gV (dg R) at' (n+1) (dg (P-By*18446744073709551615)))=bI L (dg (R-By*18446744073709551615*WW^at')):=lD (λj _=>by
      have h:=Mi.out j;rw[HP.out,HD.out,Bh.out]at h
      exact h)
     rw[uR]at pP;obtain⟨ql,xG⟩:=aK pP vH;clear pP vH uR;go_wp2;refine bodyPost_ret (v:=.int .u64 (D:Int)) (by have hh:=Bh.out;simp[results,Tryz.results304,go_sem,hh]) rfl ⟨rfl,by rw[Bh.out];exact ql.out,Below.thenGrown rN.out xG.out⟩
   . have nZ:=SZ (a:=By*18446744073709551615) (b:=P) zo;have hDl:P/By<18446744073709551615:=by
      rcases Nat.lt_or_ge (P/By) 18446744073709551615 with h|h
      . exact h
      . exact absurd (Nat.le_trans (Nat.mul_le_mul_left By h) (Nat.mul_div_le _ _)) hle
     have Ga:=aj hDl;have FZ:Hid (D<WW):=by have h1:=rO.out;have h2:=Ga.out;rw[HD.out]at h2;exact Nat.lt_trans h2 h1
     clear hDl hle;rw[nZ];clear nZ;go_wp2_with fail;refine(ahf (some ⟨b,0,none⟩) L iP b2 o2 n cap2 By b at' (iP-at') P 18446744073709551615 w5 zo Cg zo (Hy.out.below rN.out) vO.out Lh.out (tq.out.below gW.out) yR.out Ga.out rO.out).mono ?_;rintro e w7 ⟨mb,rfl,⟨qM,lmb⟩,qb⟩;have PN:=rN.out.size;replace xw:=aj qM;replace je:=aj (je.out.below qb);replace rN:=aj (aI rN.out qb);rw[HD.out]at xw;rw[HD.out];have XT:=je.out.lt;clear qM qb x0 x1;go_wp2_with fail;refine(Ko b L at' (n+1) (iP-at') (dg R) P mb 0 (n+1) (n+1) (By*D) w7 zo zo je.out zo (λj _=>(Ls.out j).symm) (xw.out.lim _ (Nat.le_refl _)) (CM vO.out (by first|exact rO.out|exact FZ.out)) (by have:=ae.1.out.size;omega) (by rw[<-HD.out];exact Nat.mul_div_le _ _) yR.out).mono ?_;rintro e w6 ⟨rfl,pP,vH⟩
     have uR:bI L (gV (dg R) at' (n+1) (dg (P-By*D)))=bI L (dg (R-By*D*WW^at')):=lD (λj _=>by
      have h:=Mi.out j;rw[HP.out,HD.out]at h
      exact h)
     rw[uR]at pP;obtain⟨ql,xG⟩:=aK pP vH;clear pP vH uR;go_wp2;refine bodyPost_ret (results_tmp rfl _ _ _) rfl ⟨rfl,ql.out,Below.thenGrown rN.out xG.out⟩
def Tk (X Y j:Nat):X% (Y*WW^(j+1))/WW^j/Y=dg (X/Y) j:=by unfold dg;rw[Nat.div_div_eq_div_mul,Nat.div_div_eq_div_mul,show Y*WW^(j+1)=WW^j*Y*WW by rw[Nat.pow_succ,<-Nat.mul_assoc,Nat.mul_comm Y],Nat.mod_mul_right_div_self,Nat.mul_comm Y]
def ara (X Y j:Nat):X% (Y*WW^(j+1))-Y* (X% (Y*WW^(j+1))/WW^j/Y) *WW^j=X% (Y*WW^j):=by
 rw[Tk];have e:Y*WW^(j+1)=Y*WW^j*WW:=by rw[Nat.pow_succ,<-Nat.mul_assoc]
 have e2:dg (X/Y) j=X/(Y*WW^j)%WW:=by unfold dg;rw[Nat.div_div_eq_div_mul]
 rw[e,Nat.mod_mul,e2];have e3:Y* (X/(Y*WW^j)%WW) *WW^j=Y*WW^j* (X/(Y*WW^j)%WW):=by grind
 rw[e3];omega
def aw2 {Y:Nat}(h:0<Y):∃s,s<64/\s=64-bQ (dg Y (ln Y-1))/\Y*2^s<WW^ln Y/\9223372036854775808<=dg (Y*2^s) (ln Y-1)/\ln (Y*2^s)=ln Y/\0<bQ (dg Y (ln Y-1))/\bQ (dg Y (ln Y-1))<=64:=by
 have hl:=OQ h;obtain⟨k,hk⟩:∃k,ln Y=k+1:=⟨ln Y-1,by omega⟩;obtain⟨h1,h2⟩:=ahn hk;obtain⟨t1,t2,t3⟩:=abx Y k h1 h2;rw[hk,Nat.add_sub_cancel];obtain⟨B,hB⟩:=aB (bQ (dg Y k));rw[hB]at t1 t2 t3⊢;have h3:=uL Y;rw[t1]at h3;have e1:WW^(k+1)=2^(64*k+64):=by rw[mJ];congr 1
 have e2:(2:Nat)^(64*k+64)=2^(64*k+B) *2^(64-B):=by rw[<-Nat.pow_add];congr 1;omega
 have hlt:Y*2^(64-B)<WW^(k+1):=by rw[e1,e2];exact Nat.mul_lt_mul_of_pos_right h3 (Nat.pow_pos zd)
 have hge:2^(64*k+B-1)<=Y:=by
  rcases Nat.lt_or_ge Y (2^(64*k+B-1))with h4|h4
  . have:=kK h4;omega
  . exact h4
 have ae0:9223372036854775808*WW^k<=Y*2^(64-B):=by
  have e3:9223372036854775808*WW^k=2^(64*k+B-1) *2^(64-B):=by rw[mJ,<-Nat.pow_add,show 64*k+B-1+(64-B)=63+64*k by omega,Nat.pow_add]
  rw[e3];exact Nat.mul_le_mul_right _ hge
 refine⟨64-B,by omega,rfl,hlt,?_,?_,t3,t2⟩
 . unfold dg;have h5:9223372036854775808<=Y*2^(64-B)/WW^k:=(Nat.le_div_iff_mul_le (dU k)).2 ae0;have h6:Y*2^(64-B)/WW^k<WW:=by refine Nat.div_lt_of_lt_mul ?_;rw[Nat.pow_succ]at hlt;exact hlt
   rw[Nat.mod_eq_of_lt h6];exact h5
 . refine ahm hlt (Nat.le_trans ?_ ae0);exact Nat.le_mul_of_pos_left _ zd
def aqC (b o n cap v:Nat)(w:World)(hm:n<=1099511627776)(hcap:n<=cap)(hc:dO w b o n v)(hv:v<WW^n):
 Cv 296 #[.slice (some ⟨b,o,none⟩) n cap] w (.slice (some ⟨b,o,none⟩) (ln v) cap):=by
 refine(mN b o n cap v w hm hcap hc hv).mono ?_;rintro e w' ⟨he,rfl⟩;exact⟨he,Below.refl _ _⟩
def arf (b m cap v n:Nat)(w:World)(hm:m<=549755813888)(hcap:m<=cap)(hn:n<64)(hx:dO w b 0 m v)(hv:v<WW^m):
 Cl 264 #[.slice (some ⟨b,0,none⟩) m cap,af (n:Int)] w λe w'=>∃a k c,e=.returned (.slice a k c)/\(DY w' a k (v/2^n)/\k<=c/\k<=549755813888/\v/2^n<WW^k)/\Bw w w':=by
 rcases Nat.eq_zero_or_pos m with h|h
 . subst h;have hv0:v=0:=by simpa using hv
   subst hv0;refine(acv (some ⟨b,0,none⟩) 0 cap n w zo zo zo).mono ?_;rintro e w' ⟨he,rfl⟩;exact⟨none,0,0,he,⟨λh=>absurd h zo,Nat.le_refl _,by omega,by rw[Nat.zero_div];exact dU 0⟩,Below.refl _ _⟩
 . have h64:n/64=0:=by omega
   refine(acu b 0 m cap v n w hm hcap zo hx hv zo).mono ?_;rintro e w' ⟨he,hB,hb,hle⟩;exact⟨_,_,_,he,⟨λ_=>⟨_,_,rfl,hB.lim _ hle⟩,hle,by omega,eU _⟩,hb⟩
def awR (l m:List UInt8)(w:World)(hl:l.length<=68719476736)(hm:m.length<=68719476736)(hm0:0<nv m)(hle:nv m<=nv l):
 Cv 278 #[ah l,ah m] w (.tuple #[ah (nt (nv l/nv m)),ah (nt (nv l%nv m)),ag true]):=by
 obtain⟨X,hX⟩:=aB (nv l);obtain⟨Y,hY⟩:=aB (nv m);have h1:=λW=>oC l W zo;have h2:=λW=>oC m W zo;rw[hX]at h1 hle⊢;rw[hY]at h2 hle hm0⊢;obtain⟨s,hs,hse,NI,OI,Ot,Jj,hbl⟩:=aw2 hm0;have NH:0<X:=by omega
 have hlx:=OQ NH;have JC:=OQ hm0;obtain⟨lx,Cs⟩:=aB (ln X);obtain⟨ly,Ct⟩:=aB (ln Y);have nW:=eU X;have yc:=eU Y;rw[Cs]at h1 hlx nW;rw[Ct]at h2 JC yc NI OI Ot hse Jj hbl;obtain⟨cx,lT⟩:=aB ((l.length+7)/8);obtain⟨cy,Ae⟩:=aB ((m.length+7)/8);rw[lT]at h1;rw[Ae]at h2;have Ou:lx<=cx:=by rw[<-Cs,<-lT,<-hX];exact jM (Mo l)
 have Ov:ly<=cy:=by rw[<-Ct,<-Ae,<-hY];exact jM (Mo m)
 have atG:cx<=8589934593:=by omega
 have NT:cy<=8589934593:=by omega
 have nZ:¬dx X Y<0:=by unfold dx;rw[if_neg zo];split<;>omega
 have Ci:X*2^s/(Y*2^s)=X/Y:=Nat.mul_div_mul_right _ _ (Nat.pow_pos zd);have hdr:X*2^s% (Y*2^s)=X%Y*2^s:=Nat.mul_mod_mul_right _ _ _;have fK:X*2^s<WW^(lx+1):=by rw[Nat.pow_succ];exact Nat.mul_lt_mul'' nW (by rw[mI];exact Nat.pow_lt_pow_right zd hs)
 have afr:=jM fK;obtain⟨X',Uy⟩:=aB (X*2^s);obtain⟨Y',UC⟩:=aB (Y*2^s);have OJ:=λb W h=>Yt b 0 lx cx X s W zo zo h nW;have VQ:=λb W h=>Yt b 0 ly cy Y s W zo zo h yc;rw[Uy]at Ci hdr fK afr;rw[UC]at Ci hdr NI OI Ot;simp only[Uy,show s/64=0 by omega,Nat.add_zero]at OJ;simp only[UC,show s/64=0 by omega,Nat.add_zero,Ot]at VQ;obtain⟨lX,Oq⟩:=aB (ln X');rw[Oq]at afr;simp only[Oq]at OJ;have UA:X'<WW^lX:=by rw[<-Oq];exact eU _
 have vd:=λb W h=>Tb (some ⟨b,0,none⟩) lX (lx+1) X' ((lx:Int)+2) W zo zo zo h UA;rw[show max ((lx:Int)+2).toNat lX=lx+2 by omega]at vd;have JD:∀W,Cl 299 #[.int .u64 (dg Y (ly-1):Int)] W λe w'=>e=.returned (af (s:Int))/\W=w':=λW=>by have:=WE (dg Y (ly-1)) W (kj _ _);rw[show(64-(bQ (dg Y (ly-1)):Int))=(s:Int)by omega]at this;exact this
 have pH:ly<=lx:=by
  have h3:¬lx<ly:=λh3=>by have:=Ww (v:=X) (u:=Y) (by rw[Cs,Ct];exact h3);omega
  omega
 have hmk:=CI ((lx:Int)+2-ly) (lx+2-ly) zo zo;obtain⟨H1,H2,anC,anD,QD,aR,Lx,Qm,HYW,Ib,QK,QL⟩:=ie h1 h2 OJ VQ vd JD nW yc NI OI Ci hdr;obtain⟨aB8,Dk,Ro⟩:=cw UA fK hm0;clear h1 h2 OJ VQ vd JD nW yc NI OI Ci hdr UA fK hX hY hse Cs Ct lT Ae Uy UC Oq Ot hle NH hm0 Jj hbl;go_enter Tryz.func278,Tryz.ntmps278;go_wp2_with fail;refine(H1.out w).mono ?_;rintro e w1 ⟨rfl,bP,hb1,gj⟩;obtain⟨dK,cj⟩:=aK bP hb1;clear bP hb1;go_wp2_with fail;refine(H2.out w1).mono ?_;rintro e w2 ⟨rfl,dF,hb2,EF⟩;obtain⟨fw,cX⟩:=aK dF (aI cj.out hb2);replace dK:=aj (dK.out.below hb2);have s1:=dK.out.lt;have s2:=fw.out.lt;clear dF hb2;have aua:((ly:Int)==0)=false:=by simp;omega
 go_wp2_with fail;refine(CF w.heap.size 0 lx cx X w1.heap.size 0 ly cy Y w2 zo gj (dK.out.lim _ gj) Lx.out zo EF (fw.out.lim _ EF) Qm.out).mono ?_;rintro e w3 ⟨rfl,hb3⟩;replace dK:=aj (dK.out.below hb3);replace fw:=aj (fw.out.below hb3);have fV:=aj (aI cX.out hb3);clear hb3;obtain⟨c,hc⟩:=aB (dx X Y);rw[hc]at nZ⊢;clear hc;have hdec:decide (c<0)=false:=by simp;omega
 have i1:=Kh ly cy (ly-1) ((ly:Int)-1) (rfl:(some ⟨w1.heap.size,0,none⟩:Option Addr)=_) zo zo;rw[Nat.mul_one,Nat.zero_add]at i1;have cY:w3.cell? ⟨w1.heap.size,ly-1,none⟩=some (.int .u64 (dg Y (ly-1):Int)):=by rw[fw.out.cell,iq _ _ _ zo]
 go_wp2_with fail;refine(aR.out w3).mono ?_;rintro e w4 ⟨rfl,rfl⟩;clear cY i1;go_wp2_with fail;refine(anC.out w.heap.size w3 (dK.out.lim _ gj)).mono ?_;rintro e w4 ⟨rfl,qB,qb,qle⟩;have yQ:=aj qB;replace fw:=aj (fw.out.below qb);have vQ:=aj (aI fV.out qb);have s4:=yQ.out.lt;clear qB qb;go_wp2_with fail;refine(QD.out w3.heap.size w4 (λ_=>⟨_,_,rfl,yQ.out.lim _ zo⟩)).mono ?_;rintro e w5 ⟨rfl,qB,qb⟩;have oM:=aj qB;replace fw:=aj (fw.out.below qb);have gW:=aj (aI vQ.out qb);have s5:=oM.out.lt;clear qB qb;go_wp2_with fail;refine(anD.out w1.heap.size w5 (fw.out.lim _ EF)).mono ?_;rintro e w6 ⟨rfl,qB,qb,aFJ⟩;have ql:=aj qB;replace oM:=aj (oM.out.below qb);have xz:=aj (aI gW.out qb);have s6:=ql.out.lt;have s65:=oM.out.lt;have q4:=vQ.out.size;clear qB qb dK fw yQ cj cX fV vQ gW;obtain⟨M,hM⟩:=aB (lx+2-ly);rw[hM]at hmk;obtain⟨lB,hlB⟩:=aB w4.heap.size;obtain⟨yB,hyB⟩:=aB w5.heap.size;rw[hlB]at oM s5 s65 q4⊢;rw[hyB]at ql s6 s5⊢;obtain⟨W7,Et⟩:=aB (w6.alloc (.cells #[.slice (some ⟨lB,0,none⟩) (lx+2) (lx+2),.slice (some ⟨yB,0,none⟩) ly (ly+1)] 322));have sB:Bw w6 W7:=by rw[<-Et];exact zl
 have QH:Hid (ar W7 w6.heap.size 322 [.slice (some ⟨lB,0,none⟩) (lx+2) (lx+2),.slice (some ⟨yB,0,none⟩) ly (ly+1)]):=by rw[<-Et];exact ar.new _ _ _
 have s7:W7.heap.size=w6.heap.size+1:=by rw[<-Et];simp
 obtain⟨W8,tH⟩:=aB (W7.alloc (.cells (bI M λ_=>0).toArray 185));have mW:Bw W7 W8:=by rw[<-tH];exact zl
 have Ho:Hid (ar W8 W7.heap.size 185 (bI M λ_=>0)):=by rw[<-tH];exact ar.new _ _ _
 have Hd:=aj (QH.out.below mW);replace oM:=aj ((oM.out.below sB).below mW);replace ql:=aj ((ql.out.below sB).below mW);have nI:=aj (aI (aI xz.out sB) mW);have PN:=xz.out.size;have S7:=aj s7;clear sB mW xz hlB hyB s7;obtain⟨d0,d1⟩:=QH.out.c2;go_wp2_with fail;have aai:Hid (dO W8 yB 0 ly Y'):=ql.out.lim _ zo;have wD:M+ly=lx+2:=by omega
 have Uz:X'<Y'*WW^M:=by have h1:WW^(ly-1)<=Y':=ajv (by have:=Ib.out;omega);have h2:WW^(ly-1) *WW^M<=Y'*WW^M:=Nat.mul_le_mul_right _ h1;rw[<-Nat.pow_add,show ly-1+M=lx+1 by omega]at h2;exact Nat.lt_of_lt_of_le Dk.out h2
 have hYp:0<Y':=by
  rcases Nat.eq_zero_or_pos Y' with h|h
  . have:=Ib.out;rw[h]at this;unfold dg at this;simp at this
  . exact h
 have hQM:X'/Y'<WW^M:=Nat.div_lt_of_lt_mul Uz;obtain⟨HXM,HYp,HQM⟩:=cw Uz hYp hQM;clear Uz hYp hQM d0 d1 Et tH hmk hM;obtain⟨oB,Vv⟩:=aB W7.heap.size;rw[Vv]at Ho⊢;have afP:oB=w6.heap.size+1:=by rw[<-Vv];exact S7.out
 obtain⟨dB,hdB⟩:=aB w6.heap.size;rw[hdB]at Hd afP s6 s65 PN⊢;have aEb:dB<oB:=by omega
 clear Vv hdB S7 QH afP;go_loopw[12] (λx wr=>∃(k:Nat) (i:Int),k<=M/\i=(k:Int)-1/\x=af i/\ar wr dB 322 [.slice (some ⟨lB,0,none⟩) (lx+2) (lx+2),.slice (some ⟨yB,0,none⟩) ly (ly+1)]/\ar wr lB 185 (bI (lx+2) (dg (X'% (Y'*WW^k))))/\ar wr oB 185 (bI M λj=>if k<=j then dg (X'/Y') j else 0)/\dO wr yB 0 ly Y'/\Bw w wr) (λx _=>(intOf x+1).toNat);case atStart=>
  refine⟨M,_,Nat.le_refl _,rfl,rfl,Hd.out,?_,?_,aai.out,nI.out⟩
  . rw[Nat.mod_eq_of_lt HXM.out];exact oM.out
  . have e:bI M (λj=>if M<=j then dg (X'/Y') j else 0)=bI M λ_=>0:=lD (λj hj=>by rw[if_neg zo]);rw[e];exact Ho.out
 case round=>
  clear Hd oM Ho aai nI ql;obtain⟨k,i,hk,hi,rfl,pd,pl,po,py,pb⟩:=hrel;obtain⟨Hd,Hl,Ho,Hy,Hb⟩:=gT pd pl po py pb;clear pd pl po py pb;obtain⟨d0,d1⟩:=Hd.out.c2;by_cases fN:0<k
  . obtain⟨j,rfl⟩:∃j,k=j+1:=⟨k-1,by omega⟩;obtain rfl:i=(j:Int):=by omega
    clear hi;go_wp2_with fail;refine(aq6 lB (lx+2) (lx+2) (X'% (Y'*WW^(j+1))) yB 0 ly (ly+1) Y' j wr zo (Nat.le_refl _) JC zo Hl.out Hy.out HYW.out Ib.out (Nat.mod_lt _ (Nat.mul_pos HYp.out (dU _))) zo zo).mono ?_;rintro e w9 ⟨rfl,qB,qg⟩;rw[Tk]at qB⊢;have hrest:=ara X' Y' j;rw[Tk]at hrest;rw[hrest]at qB;have kn:∀b,b≠lB->some b≠some lB:=λb h e=>h (Option.some.inj e);obtain⟨Rk,ZH,Rx,Hy9,Dl⟩:=gT qB (Hd.out.grown qg (kn _ zo)) (Ho.out.grown qg (kn _ zo)) (Hy.out.grown qg (kn _ zo)) (Hb.out.grown qg Hb.out.size (λb e=>by have:=Option.some.inj e;omega));obtain⟨q,hq⟩:=aB (dg (X'/Y') j);rw[hq];have Hq:=aj hq;have i2:=Kh M M j (j:Int) (rfl:(some ⟨oB,0,none⟩:Option Addr)=_) zo rfl;rw[Nat.mul_one,Nat.zero_add]at i2;have co:w9.cell? ⟨oB,j,none⟩=some (.int .u64 ((if j+1<=j then dg (X'/Y') j else 0:Nat):Int)):=by rw[Rx.out.cell,iq _ _ _ zo]
    have fo:w9.frozen? ⟨oB,j,none⟩=false:=Rx.out.free j;clear qB qg hrest hq d0 d1;obtain⟨d0,d1⟩:=ZH.out.c2;go_wp2;go_roundw;case rel=>
     refine⟨j,(j:Int)-1,by omega,rfl,by go_num,ZH.out.so oB j zo _,Rk.out.so oB j zo _,?_,?_,Dl.out.sc oB j zo _⟩
     . have h:=Rx.out.set j (.int .u64 (q:Int));rw[FD]at h
       have e:bI M (λi=>if i=j then q else if j+1<=i then dg (X'/Y') i else 0)=bI M (λi=>if j<=i then dg (X'/Y') i else 0):=lD (λi hi=>by
        by_cases h1:i=j
        . subst h1;rw[if_pos rfl,if_pos (Nat.le_refl _)];exact Hq.out.symm
        . rw[if_neg h1];by_cases h2:j+1<=i
          . rw[if_pos h2,if_pos zo]
          . rw[if_neg h2,if_neg zo])
       rw[e]at h;exact h
     . exact λt ht=>gZ zp (Hy9.out t ht)
    case measure=>simp[intOf]
  . obtain rfl:k=0:=by omega
    obtain rfl:i= -1:=by omega
    have HL:Hid (dO wr oB 0 M (X'/Y')):=λt ht=>by rw[Ho.out.cell,Nat.zero_add,iq _ _ _ ht,if_pos (Nat.zero_le _)]
    have hR:X'% (Y'*WW^0)=X'%Y':=by rw[Nat.pow_zero,Nat.mul_one]
    rw[hR]at Hl;have sV:Hid (X'%Y'<WW^(lx+2)):=Nat.lt_of_le_of_lt (Nat.mod_le _ _) (Nat.lt_of_lt_of_le Dk.out (Nat.pow_le_pow_right kg zo));have afq:=jM sV.out;have HR:=aj (show X'%Y'/2^s=X%Y by rw[QL.out];exact Nat.mul_div_cancel _ (Nat.pow_pos zd));clear hi hR;go_wp2_with fail;have je:=Hb;clear Hb;have Hb:=hbz wr;obtain⟨ae,ak⟩:=qZ (Hd.an trivial);have ae:=Hb.an ae;refine fT 999 ae (fH 11 0x1513110e0c08020b070501) ?_;refine cG ?_;refine cV ae (Ba oB 0 M M (X'/Y') _ zo (Nat.le_refl _) (HL.out.below (qU ae.1.out)) HQM.out) λy1 ae=>?_;refine cV ae (aqC lB 0 (lx+2) (lx+2) (X'%Y') _ zo (Nat.le_refl _) ((Hl.out.lim _ (Nat.le_refl _)).below (qU ae.1.out)) sV.out) λy2 ae=>?_;refine qOp λK hK=>?_;go_simp;with_reducible refine(arf lB (ln (X'%Y')) (lx+2) (X'%Y') s _ zo afq hs ((Hl.out.lim _ afq).below (qU ae.1.out)) (eU _)).mono ?_
    rintro e y3 ⟨a,k,c2,rfl,⟨qL,qc,qk,qv⟩,hq⟩;refine xc hK hq ae λae=>?_;clear hK K hq;refine cV ae (ajo a k c2 (X'%Y'/2^s) _ zo qc qL qv) λy4 ae=>?_;refine cG ?_;refine fR ae λak=>?_;go_wp2;refine bodyPost_ret (v:=.tuple #[ah (nt (X/Y)),ah (nt (X%Y)),ag true]) (by have h1:=QK.out;have h2:=HR.out;simp[results,Tryz.results278,go_sem,h1,h2]) rfl ⟨rfl,aI je.out ae.1.out⟩
section
variable {P:Program} {md:Region.Mode} {ops:Array Oper} {Q:Exit->Act->World->Prop} {S:World->Prop} {J:Nat->Bool}
def aBz {j:Nat}{oi oj:Oper}{v:Value}(hj:ops[j]?=some oj)(hap:oi.apart ops oj=true)(hsj:∀cs b,oj.op≠ .select cs b)
 (hQ:∀c a w,Q (.panic c) a w->Q (.panic c) (a.put oi.dst v) w) {K:Act->World->Prop} {a:Act} {w:World} (h:wpOp P ops Q j K a w):
 wpOp P ops Q j (λa' w'=>∃a0,a'=a0.put oi.dst v/\K a0 w') (a.put oi.dst v) w:=by
 obtain⟨h1,h2,h3⟩:=Oper.apart_spec hap;unfold wpOp at*;simp only[hj]at*;rw[wanted_put oj a oi.dst v h1];split
 . rename_i hw
   simp only[hw,if_true]at h;rcases h with h|⟨hasks,at7⟩;case inr=>exact .inr ⟨by unfold Oper.asks at*;rw[execOp_put oj hsj a oi.dst v h1];exact hasks,at7⟩
   refine .inl ?_;unfold Oper.wp at*;rw[execOp_put oj hsj a oi.dst v h1];generalize (execOp a.eval oj).run P w=r at*;cases r with
   | ok n w'=>
     cases n<;>simp only[Oper.upon]at h⊢
     case value u=>exact⟨a.put oj.dst u,Act.put_comm a v u h2,h⟩
     case skip=>exact⟨a.put oj.dst undef,Act.put_comm a v undef h2,h⟩
     case defer d=>exact⟨_,by rw[Act.put_defers,Act.put_comm _ v undef h2],h⟩
     case enter f args=>
      refine Calls.mono h λe w'' he=>?_;cases e with
      |returned u=>exact⟨a.put oj.dst u,Act.put_comm a v u h2,he⟩
      |panicked c=>exact hQ _ _ _ he
      |outgrown=>exact he
     case row row args=>exact Rows.mono h λu w'' he=>⟨a.put oj.dst u,Act.put_comm a v u h2,he⟩
   | halt x w'=>
     cases x<;>simp only[Oper.upon]at h⊢
     case panic u=>exact hQ _ _ _ h
 . rename_i hw
   simp only[hw]at h;exact⟨a.put oj.dst undef,Act.put_comm a v undef h2,h⟩
def KC (md:Region.Mode)(ops:Array Oper)(J:Nat->Bool)(j:Nat)(oj:Oper)(last:List (Nat×Bool)):List (Nat×Bool)->Array Bool->Bool
 |[],listed=>Region.ready md ops listed==[j]&&uj md ops J last (listed.setIfInBounds j true)
 | (i,b)::r,listed=>(match ops[i]? with|some o=>oj.apart ops o|none=>false)&&(if b then(Region.ready md ops listed).contains i&&Region.free md ops listed i&&(Region.ready md ops (listed.setIfInBounds j true)).contains i&&Region.free md ops (listed.setIfInBounds j true) i&&waits md ops J i
  else(Region.ready md ops listed).all (λk=>k==i||k==j)&&(Region.ready md ops listed).contains i&&(Region.ready md ops listed).contains j&&Region.ready md ops (listed.setIfInBounds j true)==[i])&&KC md ops J j oj last r (listed.setIfInBounds i true)
def xp (P:Program)(ops:Array Oper)(Q:Exit->Act->World->Prop)(S:World->Prop)(L:Act->World->Prop):List (Nat×Bool)->Act->World->Prop
 |[],a,w=>L a w
 | (i,true)::r,a,w=>∃o v,ops[i]?=some o/\YieldsIf P ops S o v a/\xp P ops Q S L r (a.put o.dst v) w
 | (i,false)::r,a,w=>wpOp P ops Q i (λa1 w1=>Bw w w1/\∀w2,Bw w1 w2->S w2/\xp P ops Q S L r a1 w2) a w
def aBK {o:Oper}{v v':Value}{a:Act}{w:World}(h:YieldsIf P ops S o v a)(h':YieldsIf P ops S o v' a)(hS:S w):v=v':=by
 rcases h with⟨h1,h2⟩ |⟨h1,h2⟩<;>rcases h' with⟨h3,h4⟩ |⟨h3,h4⟩
 . have:=(h2 w hS).symm.trans (h4 w hS);simpa using this
 . rw[h1]at h3;cases h3
 . rw[h1]at h3;cases h3
 . rw[h2,h4]
def aBw (hs:Region.noSelect ops=true)(hQ:∀(o:Oper) c a v w,Q (.panic c) (a.put o.dst v) w->Q (.panic c) a w)(zX:∀(o:Oper) c a v w,Q (.panic c) a w->Q (.panic c) (a.put o.dst v) w)
 {j:Nat} {oj:Oper} (lc:ops[j]?=some oj) (hJ:J j=true) {ty:TypeId} {cs:List Value} (hal:∀(K:Act->World->Prop) a w,K (a.put oj.dst (.pointer (some ⟨w.heap.size,0,none⟩))) (w.alloc (.cells cs.toArray ty))->wpOp P ops Q j K a w)
 (last:List (Nat×Bool)) (n0:Nat) (p:List (Nat×Bool)):∀(listed:Array Bool) (a:Act),Closed md ops listed->KC md ops J j oj last p listed=true->
 (∀b w,ar w b ty cs->n0<=b->S w->Closed md ops (listed.setIfInBounds j true)->xp P ops Q S (λa w=>∀b,n0<=b->ar w b ty cs->bH P ops Q S J last (a.put oj.dst (.pointer (some ⟨b,0,none⟩))) w) p a w->sU P md ops Q S J (last.length+p.length) (listed.setIfInBounds j true) (a.put oj.dst (.pointer (some ⟨b,0,none⟩))) w)/\
 (∀w,n0<=w.heap.size->j∈Region.ready md ops listed->(∀w2,Bw w w2->S w2/\xp P ops Q S (λa w=>∀b,n0<=b->ar w b ty cs->bH P ops Q S J last (a.put oj.dst (.pointer (some ⟨b,0,none⟩))) w) p a w2)->sU P md ops Q S J (last.length+p.length+1) listed a w):=by
 obtain⟨L,hL⟩:∃L:Act->World->Prop,(λa w=>∀b,n0<=b->ar w b ty cs->bH P ops Q S J last (a.put oj.dst (.pointer (some ⟨b,0,none⟩))) w)=L:=⟨_,rfl⟩;have hLa:∀a w,L a w->∀b,n0<=b->ar w b ty cs->bH P ops Q S J last (a.put oj.dst (.pointer (some ⟨b,0,none⟩))) w:=λa w h=>by rw[<-hL]at h;exact h
 rw[hL];induction p with
 | nil=>
   intro listed a hc hok;simp only[KC,Bool.and_eq_true,beq_iff_eq]at hok;have hA:∀b w,ar w b ty cs->n0<=b->S w->Closed md ops (listed.setIfInBounds j true)->L a w->sU P md ops Q S J last.length (listed.setIfInBounds j true) (a.put oj.dst (.pointer (some ⟨b,0,none⟩))) w:=
    λb w hb h0 hS hc2 h=>FQ hs hQ last _ _ _ hc2 hok.2 (λ_=>hS) (hLa _ _ h b h0 hb)
   refine⟨hA,λw h0 hj h=>⟨λh9=>(by rw[hok.1]at h9;cases h9),λk hk=>?_⟩⟩;rw[hok.1]at hk;obtain rfl:k=j:=by simpa using hk
   have h2:=h (w.alloc (.cells cs.toArray ty)) zl;exact hal _ _ _ ⟨λ_=>h2.1,hA _ _ (ar.new _ _ _) h0 h2.1 (hc.list hj) h2.2⟩
 | cons x r ih=>
   obtain⟨i,bb⟩:=x;intro listed a hc hok;unfold KC at hok;rw[Bool.and_eq_true,Bool.and_eq_true]at hok;obtain⟨⟨hap,h1⟩,h2⟩:=hok;cases ho:ops[i]? with
   |none=>rw[ho]at hap;cases hap
   |some o=>
   rw[ho]at hap;dsimp only at hap;obtain⟨a1,a2,a3⟩:=Oper.apart_spec hap;have hso:=λcs b=>Region.noSelect_spec hs i o cs b ho;cases bb with
   | true=>
     simp only[if_true,Bool.and_eq_true]at h1;obtain⟨⟨⟨⟨b1,b2⟩,b3⟩,b4⟩,b5⟩:=h1;have m1:i∈Region.ready md ops listed:=by simpa using b1
     have m2:i∈Region.ready md ops (listed.setIfInBounds j true):=by simpa using b3
     have hne:i≠j:=λe=>by
      subst e;have:=(mem_ready.1 m2).1;rcases Nat.lt_or_ge i listed.size with h'|h'
      . simp[h']at this
      . have:=(mem_ready.1 m1).1;simp[Array.getElem?_eq_none h']at this
     have hcm:=Array.setIfInBounds_comm true true (xs:=listed) hne;refine⟨λb w hb h0 hS hc2 h=>?_,λw h0 hj h=>?_⟩
     . obtain⟨o',v,ho',hy,h⟩:=h;rw[ho]at ho';obtain rfl:=Option.some.inj ho';have hy2:YieldsIf P ops S o v (a.put oj.dst (.pointer (some ⟨b,0,none⟩))):=hy.of_same (execOp_put o hso a oj.dst _ a1) (wanted_put o a oj.dst _ a1);refine FO ho (Region.noSelect_spec hs) (λc a w=>hQ o c a v w) b5 (last.length+r.length) _ _ w hc2 b4 m2 hy2 hS ?_;rw[Act.put_comm a _ v a2,<-hcm];refine(ih _ _ (hc.list m1) h2).1 b w hb h0 hS ?_ h;rw[hcm];exact hc2.list m2
     . have hw:=h w (Below.refl _ _);obtain⟨hS,o',v,ho',hy,hw⟩:=hw;rw[ho]at ho';obtain rfl:=Option.some.inj ho';refine FO ho (Region.noSelect_spec hs) (λc a w=>hQ o c a v w) b5 (last.length+r.length+1) _ _ w hc b2 m1 hy hS ?_;refine(ih _ _ (hc.list m1) h2).2 w h0 (ready_mono hj (Ne.symm hne)) (λw2 hb2=>?_);obtain⟨hS2,o',v',ho',hy',h'⟩:=h w2 hb2;rw[ho]at ho';obtain rfl:=Option.some.inj ho';rw[aBK hy hy' hS2];exact⟨hS2,h'⟩
   | false=>
     simp only[Bool.false_eq_true,if_false,Bool.and_eq_true,beq_iff_eq,List.all_eq_true]at h1;obtain⟨⟨⟨c1,c2⟩,c3⟩,c4⟩:=h1;have m1:i∈Region.ready md ops listed:=by simpa using c2
     have m3:j∈Region.ready md ops listed:=by simpa using c3
     have m2:i∈Region.ready md ops (listed.setIfInBounds j true):=by rw[c4];simp
     have hne:i≠j:=λe=>by
      subst e;have:=(mem_ready.1 m2).1;rcases Nat.lt_or_ge i listed.size with h'|h'
      . simp[h']at this
      . have:=(mem_ready.1 m1).1;simp[Array.getElem?_eq_none h']at this
     have hcm:=Array.setIfInBounds_comm true true (xs:=listed) hne;have hA:∀b w,ar w b ty cs->n0<=b->S w->Closed md ops (listed.setIfInBounds j true)->xp P ops Q S L ((i,false)::r) a w->sU P md ops Q S J (last.length+r.length+1) (listed.setIfInBounds j true) (a.put oj.dst (.pointer (some ⟨b,0,none⟩))) w:=λb w hb h0 hS hc2 h=>by
      refine⟨λh9=>(by rw[c4]at h9;cases h9),λk hk=>?_⟩;rw[c4]at hk;obtain rfl:k=i:=by simpa using hk
      refine wpOp_mono (λa' w' q=>?_) (aBz (v:=.pointer (some ⟨b,0,none⟩)) ho hap hso (λc a w=>zX oj c a _ w) h);obtain⟨a0,rfl,q1,q2⟩:=q;obtain⟨q3,q4⟩:=q2 w' (Below.refl _ _);refine⟨λ_=>q3,?_⟩;rw[<-hcm];refine(ih _ _ (hc.list m1) h2).1 b w' (hb.below q1) h0 q3 ?_ q4;rw[hcm];exact hc2.list m2
     refine⟨hA,λw h0 hj h=>⟨λh9=>(by rw[h9]at m1;cases m1),λk hk=>?_⟩⟩;have hk2:=c1 k hk;simp only[Bool.or_eq_true,beq_iff_eq]at hk2;rcases hk2 with rfl|rfl
     . refine wpOp_mono (λa1 w1 q=>⟨λ_=>(q.2 w1 (Below.refl _ _)).1,?_⟩) (h w (Below.refl _ _)).2;exact(ih _ _ (hc.list m1) h2).2 w1 (Nat.le_trans h0 q.1.size) (ready_mono m3 (Ne.symm hne)) q.2
     . have h3:=h (w.alloc (.cells cs.toArray ty)) zl;exact hal _ _ _ ⟨λ_=>h3.1,hA _ _ (ar.new _ _ _) h0 h3.1 (hc.list hj) h3.2⟩
def Bd {id:Nat}{a:Act}{w:World}(S:World->Prop)(J:Nat->Bool)(j:Nat){oj:Oper}(ty:TypeId)(cs:List Value)(p last:List (Nat×Bool))(hm:P.follows .mixedOrders=true)(hs:Region.noSelect ops=true)
 (lc:ops[j]?=some oj) (hJ:J j=true) (hl:last.length+p.length+1=ops.size) (hok:KC .any ops J j oj last p (Array.replicate ops.size false)=true) (hr:(Region.ready .any ops (Array.replicate ops.size false)).contains j=true)
 (hQ:∀(o:Oper) c a v w,Q (.panic c) (a.put o.dst v) w->Q (.panic c) a w) (zX:∀(o:Oper) c a v w,Q (.panic c) a w->Q (.panic c) (a.put o.dst v) w)
 (hal:∀(K:Act->World->Prop) a w,K (a.put oj.dst (.pointer (some ⟨w.heap.size,0,none⟩))) (w.alloc (.cells cs.toArray ty))->wpOp P ops Q j K a w)
 (h:∀w2,Bw w w2->S w2/\xp P ops Q S (λa w'=>∀b,w.heap.size<=b->ar w' b ty cs->bH P ops Q S J last (a.put oj.dst (.pointer (some ⟨b,0,none⟩))) w') p a w2):(Code.region id ops true).wp P Q a w:=by
 refine wp_region_any hm (Lc ops.size _ _ _ ?_ (S:=S) (J:=J));have:=(aBw (md:=.any) (S:=S) (J:=J) hs hQ zX lc hJ hal last w.heap.size p (Array.replicate ops.size false) a (Closed.empty _) hok).2 w.drew (Nat.le_refl _) (by simpa using hr) (λw2 hb=>h w2 ((Below.refl _ _).drew.trans hb));rw[hl]at this;exact this
def AR {k:Nat}{o:Oper}{a:Act}{w:World}{R:Act->World->Prop}(ho:ops.toList[k]?=some o)(hw:Region.wanted o (yielded ops a.tmps)=true)(h:∀K:Act->World->Prop,(∀a' w',R a' w'->K a' w')->o.wp P a w K Q):wpOp P ops Q k R a w:=by rw[Array.getElem?_toList]at ho;unfold wpOp;simp only[ho,hw,if_true];exact .inl (h _ (λa' w' h=>h))
def rK {i:Nat}{L:Act->World->Prop}{r:List (Nat×Bool)}{o:Oper}{v:Value}{a:Act}{w:World}(ho:ops.toList[i]?=some o)(hw:Region.wanted o (yielded ops a.tmps)=true)
 (hy:∀w',S w'->(execOp a.eval o).run P w'=.ok (.value v) w') (h:xp P ops Q S L r (a.put o.dst v) w):xp P ops Q S L ((i,true)::r) a w:=
 ⟨o,v,by rw[<-Array.getElem?_toList];exact ho,.inl ⟨hw,hy⟩,h⟩
def oH {i:Nat}{L:Act->World->Prop}{r:List (Nat×Bool)}{o:Oper}{a:Act}{w:World}(ho:ops.toList[i]?=some o)(hw:Region.wanted o (yielded ops a.tmps)=true)
 (h:∀K:Act->World->Prop,(∀a' w',Bw w w'->(∀w2,Bw w w2->Bw w' w2->S w2/\xp P ops Q S L r a' w2)->K a' w')->o.wp P a w K Q):xp P ops Q S L ((i,false)::r) a w:=by
 show wpOp P ops Q i _ a w
 rw[Array.getElem?_toList]at ho;unfold wpOp;simp only[ho,hw,if_true];exact .inl (h _ (λa' w' h1 h2=>⟨h1,λw2 h3=>h2 w2 (aI h1 h3) h3⟩))
end
section
variable {P:Program} {md:Region.Mode} {ops:Array Oper} {Q:Exit->Act->World->Prop} {S:World->Prop} {J:Nat->Bool}
def Il (md:Region.Mode)(ops:Array Oper)(J:Nat->Bool)(es:List Nat)(D:Nat->List Nat)(last:List (Nat×Bool)):Nat->Array Bool->Bool
 |0,listed=>es.all (λk=>listed.getD k false)&&uj md ops J last listed
 |n+1,listed=>listed.size==ops.size&& !(Region.ready md ops listed).isEmpty&&(Region.ready md ops listed).all λk=>es.contains k&& !(listed.getD k false)&&decide (k<listed.size)&&(D k).all (λd=>es.contains d&&listed.getD d false)&&Il md ops J es D last n (listed.setIfInBounds k true)
def wy (es:List Nat)(listed:Array Bool)(i:Nat):Bool:=es.contains i&&listed.getD i false
def arc {es:List Nat}{listed:Array Bool}{k:Nat}(hk:es.contains k=true)(hl:k<listed.size):wy es (listed.setIfInBounds k true)=λi=>i==k||wy es listed i:=by
 funext i
 unfold wy;by_cases h:i=k
 . subst h;simp only[beq_self_eq_true,Bool.true_or];rw[hk];simp[hl]
 . have h2:(i==k)=false:=by simpa using h
   rw[h2,Bool.false_or,getD_set_ne false (λe=>h e.symm)]
def aBs (hs:Region.noSelect ops=true)(hQ:∀(o:Oper) c a v w,Q (.panic c) (a.put o.dst v) w->Q (.panic c) a w)(es:List Nat)(D:Nat->List Nat)(last:List (Nat×Bool))(I:(Nat->Bool)->Act->World->Prop)
 (h2:∀dn a w,I dn a w->S w) (h3:∀k∈es,∀dn a w,dn k=false->(∀d∈D k,dn d=true)->I dn a w->wpOp P ops Q k (I λi=>i==k||dn i) a w) (h4:∀dn a w,(∀k∈es,dn k=true)->I dn a w->bH P ops Q S J last a w) (n:Nat):
 ∀(listed:Array Bool) (a:Act) (w:World),Closed md ops listed->Il md ops J es D last n listed=true->I (wy es listed) a w->sU P md ops Q S J (last.length+n) listed a w:=by
 induction n with
 |zero=>intro listed a w hc hok h;simp only[Il,Bool.and_eq_true,List.all_eq_true]at hok;exact FQ hs hQ last _ _ _ hc hok.2 (λ_=>h2 _ _ _ h) (h4 _ _ _ (λk hk=>by unfold wy;rw[hok.1 k hk];simpa using hk) h)
 | succ n ih=>
   intro listed a w hc hok h;simp only[Il,Bool.and_eq_true,List.all_eq_true]at hok;obtain⟨⟨_,h5⟩,h6⟩:=hok;refine⟨λh0=>(by rw[h0]at h5;simp at h5),λk hk=>?_⟩;obtain⟨⟨⟨⟨q1,q2⟩,q3⟩,q4⟩,q5⟩:=h6 k hk;have q3':k<listed.size:=of_decide_eq_true q3;have hf:wy es listed k=false:=by unfold wy;rw[q1];simpa using q2
   refine wpOp_mono (λa1 w1 q=>⟨λ_=>h2 _ _ _ q,ih _ _ _ (hc.list hk) q5 ?_⟩) (h3 k (by simpa using q1) _ a w hf (λd hd=>by unfold wy;rw[Bool.and_eq_true];exact q4 d hd) h);rw[arc q1 q3'];exact q
def KA (md:Region.Mode)(ops:Array Oper)(J:Nat->Bool)(es:List Nat)(D:Nat->List Nat)(last:List (Nat×Bool)):List Nat->Array Bool->Bool
 |[],listed=>es.all (λk=>!(listed.getD k false))&&Il md ops J es D last es.length listed
 |x::r,listed=>(Region.ready md ops listed).contains x&&Region.free md ops listed x&&waits md ops J x&&KA md ops J es D last r (listed.setIfInBounds x true)
def aBr (P:Program)(ops:Array Oper)(Q:Exit->Act->World->Prop)(S:World->Prop)(J:Nat->Bool)(es:List Nat)(D:Nat->List Nat)(last:List (Nat×Bool))(a:Act)(w:World):Prop:=
 ∃I:(Nat->Bool)->Act->World->Prop,I (λ_=>false) a w/\(∀dn a w,I dn a w->S w)/\(∀k∈es,∀dn a w,dn k=false->(∀d∈D k,dn d=true)->I dn a w->wpOp P ops Q k (I λi=>i==k||dn i) a w)/\∀dn a w,(∀k∈es,dn k=true)->I dn a w->bH P ops Q S J last a w
def FT (P:Program)(ops:Array Oper)(Q:Exit->Act->World->Prop)(S:World->Prop)(J:Nat->Bool)(es:List Nat)(D:Nat->List Nat)(last:List (Nat×Bool)):List Nat->Act->World->Prop
 |[],a,w=>aBr P ops Q S J es D last a w
 |x::r,a,w=>∃o v,ops[x]?=some o/\YieldsIf P ops S o v a/\FT P ops Q S J es D last r (a.put o.dst v) w
def aBt (hs:Region.noSelect ops=true)(hQ:∀(o:Oper) c a v w,Q (.panic c) (a.put o.dst v) w->Q (.panic c) a w)(es:List Nat)(D:Nat->List Nat)(last:List (Nat×Bool))(r:List Nat):
 ∀(listed:Array Bool) (a:Act) (w:World),Closed md ops listed->KA md ops J es D last r listed=true->S w->FT P ops Q S J es D last r a w->sU P md ops Q S J (last.length+es.length+r.length) listed a w:=by
 induction r with
 | nil=>
   intro listed a w hc hok hS h;simp only[KA,Bool.and_eq_true,List.all_eq_true]at hok;obtain⟨I,h1,h2,h3,h4⟩:=h;have e:wy es listed=λ_=>false:=by
    funext i
    unfold wy;by_cases hi:es.contains i=true
    . have:=hok.1 i (by simpa using hi);rw[hi];simpa using this
    . simp only[Bool.not_eq_true]at hi;rw[hi];rfl
   exact aBs hs hQ es D last I h2 h3 h4 es.length listed a w hc hok.2 (by rw[e];exact h1)
 |cons x r ih=>intro listed a w hc hok hS h;simp only[KA,Bool.and_eq_true]at hok;obtain⟨⟨⟨h1,h2⟩,h3⟩,h4⟩:=hok;obtain⟨o,v,ho,hy,h⟩:=h;exact FO ho (Region.noSelect_spec hs) (λc a w=>hQ o c a v w) h3 (last.length+es.length+r.length) listed a w hc h2 (by simpa using h1) hy hS (ih _ _ _ (hc.list (by simpa using h1)) h4 hS h)
def aj1 {id:Nat}{a:Act}{w:World}(S:World->Prop)(J:Nat->Bool)(es:List Nat)(D:Nat->List Nat)(last:List (Nat×Bool))(r:List Nat)(hm:P.follows .mixedOrders=true)(hs:Region.noSelect ops=true)
 (hl:last.length+es.length+r.length=ops.size) (hok:KA .any ops J es D last r (Array.replicate ops.size false)=true)
 (hQ:∀(o:Oper) c a v w,Q (.panic c) (a.put o.dst v) w->Q (.panic c) a w) (hS:S w.drew) (h:FT P ops Q S J es D last r a w.drew):(Code.region id ops true).wp P Q a w:=by
 refine wp_region_any hm (Lc ops.size _ _ _ ?_ (S:=S) (J:=J));have:=aBt (md:=.any) (S:=S) (J:=J) hs hQ es D last r (Array.replicate ops.size false) a w.drew (Closed.empty _) hok hS h;rw[hl]at this;exact this
def aio {x:Nat}{es:List Nat}{D:Nat->List Nat}{last:List (Nat×Bool)}{r:List Nat}{o:Oper}{v:Value}{a:Act}{w:World}(ho:ops.toList[x]?=some o)(hw:Region.wanted o (yielded ops a.tmps)=true)
 (hy:∀w',S w'->(execOp a.eval o).run P w'=.ok (.value v) w') (h:FT P ops Q S J es D last r (a.put o.dst v) w):FT P ops Q S J es D last (x::r) a w:=
 ⟨o,v,by rw[<-Array.getElem?_toList];exact ho,.inl ⟨hw,hy⟩,h⟩
def ain {es:List Nat}{D:Nat->List Nat}{last:List (Nat×Bool)}{a:Act}{w:World}(I:Act->(Nat->Bool)->Act->World->Prop)(h1:I a (λ_=>false) a w)(h2:∀dn a' w',I a dn a' w'->S w')
 (h3:∀k∈es,∀dn a' w',dn k=false->(∀d∈D k,dn d=true)->I a dn a' w'->wpOp P ops Q k (I a λi=>i==k||dn i) a' w') (h4:∀dn a' w',(∀k∈es,dn k=true)->I a dn a' w'->bH P ops Q S J last a' w'):FT P ops Q S J es D last [] a w:=
 ⟨I a,h1,h2,h3,h4⟩
def uf {k:Nat}{o:Oper}{a:Act}{w:World}{R:Act->World->Prop}(ho:ops.toList[k]?=some o)(hw:Region.wanted o (yielded ops a.tmps)=true)(h:∀K:Act->World->Prop,(∀a' w',R a' w'->K a' w')->o.wp P a w K Q):wpOp P ops Q k R a w:=by rw[Array.getElem?_toList]at ho;unfold wpOp;simp only[ho,hw,if_true];exact .inl (h _ (λa' w' h=>h))
def uk (a:Act)(k:Nat):a.put (some k) (a.tmps.getD k undef)=a:=by
 unfold Act.put;have:a.tmps.setIfInBounds k (a.tmps.getD k undef)=a.tmps:=by
  apply Array.ext
  . simp
  . intro i h1 h2;rw[Array.getElem_setIfInBounds];split
    . rename_i e;subst e;simp[h2]
    . rfl
 cases a
 simp only at this⊢;rw[this]
end
end Go.Proofs.YtbkopgdpcijfbaaGreatDoor
