/- A range over a function whose iterator writes cells of its own: a contract by footprints,and its law. No program here. -/
import Derived.RangeFuncNested
import Derived.RangeFuncBound
import Derived.RangeFuncCalls
import Derived.RangeFuncLeaves
import Derived.Test.YtbkopgdpcijfbaaGreatDoorZ6
set_option linter.all false
set_option maxRecDepth 100000
set_option maxHeartbeats 16000000
namespace Go.Proofs.YtbkopgdpcijfbaaGreatDoor
open Go.RowKit
structure Chg (Y:Nat->Prop)(W W':World):Prop where
 os:W'.os=W.os
 tape:W'.tape=W.tape
 output:W'.output=W.output
 size:W.heap.size<=W'.heap.size
 block:∀k,k<W.heap.size->¬Y k->W'.heap[k]?=W.heap[k]?
def Chg.refl (Y:Nat->Prop)(W:World):Chg Y W W:=⟨rfl,rfl,rfl,Nat.le_refl _,λ_ _ _=>rfl⟩
def Chg.aGs {Y:Nat->Prop}{W W':World}{r:Option Nat}(h:W.grownBy W' r)(hr:∀b,r=some b->Y b):Chg Y W W':=
 ⟨h.os,h.tape,h.output,h.size,λk hk hy=>h.block k hk (λe=>hy (hr k e.symm))⟩
def Chg.trans {Y Z:Nat->Prop}{A B C:World}(h:Chg Y A B)(k:Chg Z B C)(hz:∀b,Z b->Y b\/A.heap.size<=b):Chg Y A C:=
 ⟨k.os.trans h.os,k.tape.trans h.tape,k.output.trans h.output,Nat.le_trans h.size k.size,λi hi hy=>by
  refine(k.block i (Nat.lt_of_lt_of_le hi h.size) (λhz'=>?_)).trans (h.block i hi hy);rcases hz i hz' with h1|h1
  . exact hy h1
  . omega⟩
def Chg.mono {Y Z:Nat->Prop}{A B:World}(h:Chg Y A B)(hz:∀b,b<A.heap.size->Y b->Z b):Chg Z A B:=
 ⟨h.os,h.tape,h.output,h.size,λi hi hy=>h.block i hi (λh1=>hy (hz i hi h1))⟩
def Chg.below {Y:Nat->Prop}{n:Nat}{A B:World}(h:Chg Y A B)(hn:n<=A.heap.size)(hy:∀b,Y b->n<=b):Below n A B:=
 ⟨h.os,h.tape,h.output,h.size,λk hk=>h.block k zo (λh1=>by have:=hy k h1;omega)⟩
def Chg.cell {Y:Nat->Prop}{A B:World}(h:Chg Y A B){a:Addr}{v:Value}(hc:A.cell? a=some v)(hy:¬Y a.block):B.cell? a=some v:=
 (World.cell?_of_block (h.block _ (World.block_lt_of_cell? A a hc) hy)).trans hc
def xM (J:(Nat->Prop)->World->Prop):Prop:=∀Y W W',J Y W->Chg (λb=>¬Y b) W W'->J Y W'
def xM.grown {J:(Nat->Prop)->World->Prop}(h:xM J){Y:Nat->Prop}{W W':World}{r:Option Nat}(hj:J Y W)(hg:W.grownBy W' r)(hr:∀b,r=some b->¬Y b):J Y W':=
 h Y W W' hj (Chg.aGs hg hr)
def Ih (J:(Nat->Prop)->World->Prop):Prop:=∀Y W,J Y W->∀b,Y b->b<W.heap.size
def Steps (J:(Nat->Prop)->World->Prop)(Y:Nat->Prop)(W W':World):Prop:=∃Y',J Y' W'/\Chg Y W W'/\∀b,Y' b->Y b\/W.heap.size<=b
def Steps.trans {J K:(Nat->Prop)->World->Prop}{Y:Nat->Prop}{A B C:World}(h:Steps J Y A B)(k:∀Z,J Z B->(∀b,Z b->Y b\/A.heap.size<=b)->Steps K Z B C):Steps K Y A C:=by
 obtain⟨Z,hJ,hc,hz⟩:=h;obtain⟨Z',hK,hc',hz'⟩:=k Z hJ hz;refine⟨Z',hK,hc.trans hc' hz,λb hb=>?_⟩;rcases hz' b hb with h1|h1
 . exact hz b h1
 . exact .inr (Nat.le_trans hc.size h1)
def FV {α:Type}(P:Program)(g:Nat)(lb:Array Value)(encs:α->Array Value)(ok:(Nat->Prop)->World->Prop)(xs:List α):Prop:=
 ∀(l:Nat) (J:List α->(Nat->Prop)->World->Prop),(∀pre,xM (J pre))->(∀pre,Ih (J pre))->
  (∀n pre x Y W,J pre Y W->(pre++[x])<+:xs->YieldAt Fence.wide n P l (encs x) W λe W'=>e=.returned (ag true)/\Steps (J (pre++[x])) Y W W')->
  ∀n Y W,J [] Y W->ok Y W->CallsIn Fence.wide n P g (#[.func (.yield l) #[] #[]]++lb) W λe W'=>(∃v,e=.returned v)/\Steps (J xs) Y W W'
def asB (K:(Nat->Prop)->World->Prop)(Y:Nat->Prop)(W:World):Exit->Act->World->Prop
 | .normal,_,W'=>Steps K Y W W'
 |_,_,_=>False
def ajZ {α:Type}{P:Program}{n:Nat}{g:Operand}{ps:Array Tmp}{assign body:Code}{Q:Exit->Act->World->Prop}{a:Act}{w:World}
 {gf:Nat} {lb:Array Value} (hg:a.eval g=.func (.func gf) #[] lb) (eg:∀args w,(callFunc gf args).run P w=.ok (.enter gf args) w)
 {encs:α->Array Value} {ok:(Nat->Prop)->World->Prop} {xs:List α} (hseq:FV P gf lb encs ok xs) (hps:∀x,(encs x).size=ps.size)
 (I:List α->(Nat->Prop)->World->Prop) (hI:∀pre,xM (I pre)) (hL:∀pre,Ih (I pre)) (Y:Nat->Prop) (h0:I [] Y w)
 (hok:∀W1,w.grownBy W1 none->ok (λb=>Y b\/b=w.heap.size\/b=w.heap.size+1) W1) (a₁:α->Act)
 (atu:∀(m l:Nat) (x:α) (W:World) (K:Act->World->Prop),K (a₁ x) W->
  assign.wpIn (Fence.wide.inRound l) m P (Exit.then K (λ_ _ _=>False)) {tmps:=(ps.zip (encs x)).foldl (λt (p,v)=>t.setIfInBounds p v) a.tmps,defers:=[]} W)
 (hbody:∀(m l:Nat) (pre:List α) (x:α) (Z:Nat->Prop) (W:World),I pre Z W->(pre++[x])<+:xs->(∀b,Z b->Y b\/w.heap.size+2<=b)->w.heap.size+2<=W.heap.size->body.wpIn (Fence.wide.inRound l) m P (asB (I (pre++[x])) Z W) (a₁ x) W)
 (hdone:∀(W:World),Steps (λZ W=>I xs Z W/\W.heap[w.heap.size]?=some (.deferred (some []))/\∀b,Z b->Y b\/w.heap.size+2<=b) Y w W->Q .normal {a with defers:={target:=.collected w.heap.size,args:=#[]}::a.defers} W):
 (Code.rangeFunc g ps assign body).wpIn Fence.wide n P Q a w:=by
 refine wpIn_rangeFunc ?_;intro fn hfn;obtain⟨rec,hrec⟩:∃rec:LoopState->Option Code->Loop,rec=λst pe=>{state:=st,pending:=pe,fn,tmps:=a.tmps,params:=ps,assign,body,defers:=w.heap.size}:=⟨_,rfl⟩;obtain⟨W1,hW1⟩:=aB ((w.alloc (.deferred (some []))).alloc (.loop (rec .ready none)));have g1:w.grownBy W1 none:=by rw[<-hW1];have h1:=World.grownBy_alloc w (.deferred (some [])) none;have h2:=World.grownBy_alloc (w.alloc (.deferred (some []))) (.loop (rec .ready none)) none;exact⟨h2.os.trans h1.os,h2.tape.trans h1.tape,h2.output.trans h1.output,Nat.le_trans h1.size h2.size,λk hk hne=>(h2.block k (Nat.lt_of_lt_of_le hk h1.size) hne).trans (h1.block k hk hne)⟩
 have s1:W1.heap.size=w.heap.size+2:=by rw[<-hW1];simp
 have sF:W1.heap[w.heap.size+1]?=some (.loop (rec .ready none)):=by rw[<-hW1];have:=World.alloc_heap_new (w.alloc (.deferred (some []))) (.loop (rec .ready none));rwa [World.size_alloc]at this
 have hk1:W1.heap[w.heap.size]?=some (.deferred (some [])):=by rw[<-hW1];exact(Below.heap_alloc _ _ _ zm).trans (World.alloc_heap_new w _)
 have hi1:I [] Y W1:=(hI []).grown h0 g1 (λb e=>by cases e)
 refine⟨w.heap.size+1,[{target:=.collected w.heap.size,args:=#[]}],W1,{target:=.fn (.func gf) lb,args:=#[.func (.yield (w.heap.size+1)) #[] #[]]},W1,gf,
  #[.func (.yield (w.heap.size+1)) #[] #[]]++lb,W1,?_,?_,λ_ _=>trivial,?_,(λh=>by cases h),?_⟩
 . rw[<-hW1,hrec];exact run_enterLoop_outer _ _ _ _ _
 . simp only[resolve,hg];simp[go_sem]
 . simp[invoke,go_sem,eg]
 -- the loop's own blocks beside the caller's invariant
 obtain⟨J,hJ⟩:∃J:List α->(Nat->Prop)->World->Prop,J=λpre Z W=>∃Zi,Z=(λb=>Zi b\/b=w.heap.size\/b=w.heap.size+1)/\(∀b,Zi b->Y b\/w.heap.size+2<=b)/\I pre Zi W/\
  W.heap[w.heap.size+1]?=some (.loop (rec .ready none))/\W.heap[w.heap.size]?=some (.deferred (some [])):=⟨_,rfl⟩
 have NJ:∀b,Y b->b<w.heap.size:=hL [] Y w h0;refine(hseq (w.heap.size+1) J ?_ ?_ ?_ (n-1) (λb=>Y b\/b=w.heap.size\/b=w.heap.size+1) W1 ?_ (hok W1 g1)).mono ?_
 . subst hJ;rintro pre Z W W' ⟨Zi,rfl,hz,hi,hl,hk⟩ hgr;refine⟨Zi,rfl,hz,hI pre Zi W W' hi (hgr.mono (λb _ h h2=>h (.inl h2))),?_,?_⟩
   . exact(hgr.block _ (Array.getElem?_eq_some_iff.1 hl).1 (λh=>h (.inr (.inr rfl)))).trans hl
   . exact(hgr.block _ (Array.getElem?_eq_some_iff.1 hk).1 (λh=>h (.inr (.inl rfl)))).trans hk
 . subst hJ;rintro pre Z W ⟨Zi,rfl,hz,hi,hl,hk⟩ b (hb|rfl|rfl)
   . exact hL pre Zi W hi b hb
   . exact(Array.getElem?_eq_some_iff.1 hk).1
   . exact(Array.getElem?_eq_some_iff.1 hl).1
 . -- one round
   subst hJ;rintro m pre x Z W ⟨Zi,rfl,hz,hi,hl,hk⟩ hpre;have hlt:w.heap.size+1<W.heap.size:=(Array.getElem?_eq_some_iff.1 hl).1;have hy:=run_yield (P:=P) (args:=encs x) hl (by rw[hrec];exact hps x);rw[hrec]at hy;have nz0:¬Zi w.heap.size:=λh=>by rcases hz _ h with h1|h1;exact absurd (NJ _ h1) zo;omega
   have Pf:¬Zi (w.heap.size+1):=λh=>by rcases hz _ h with h1|h1;exact absurd (NJ _ h1) zo;omega
   refine⟨fn,_,assign,body,hy,roundIn_of_wpIn hfn (atu _ _ x W _ ⟨_,run_beginRound hl (by rw[hrec]),?_⟩)⟩;obtain⟨W2,hW2⟩:=aB (W.putObj (w.heap.size+1) (.loop {rec .ready none with state:=.busy}));have g2:W.grownBy W2 (some (w.heap.size+1)):=by rw[<-hW2];exact grownBy_putObj' _ _ _
   have hl2:W2.heap[w.heap.size+1]?=some (.loop {rec .ready none with state:=.busy}):=by rw[<-hW2];exact World.putObj_heap_same hlt
   have hk2:W2.heap[w.heap.size]?=some (.deferred (some [])):=by rw[<-hW2];exact(World.putObj_heap_other zo).trans hk
   have hi2:I pre Zi W2:=(hI pre).grown hi g2 (λb e h=>by cases e;exact Pf h);have s2:W2.heap.size=W.heap.size:=by rw[<-hW2];simp
   rw[hW2];refine wpIn_mono (hbody m _ pre x Zi W2 hi2 hpre hz zo) ?_;rintro e a3 W3 hp;cases e with
   | normal=>
     obtain⟨Z3,hi3,hc3,hz3⟩:=hp;have Ju:W3.heap[w.heap.size+1]?=some (.loop {rec .ready none with state:=.busy}):=(hc3.block _ zo Pf).trans hl2;have hk3:W3.heap[w.heap.size]?=some (.deferred (some [])):=(hc3.block _ zo nz0).trans hk2;have gz:w.heap.size+1<W3.heap.size:=(Array.getElem?_eq_some_iff.1 Ju).1;have he:=run_endRound (P:=P) none Ju;have agS:∀b,Z3 b->Y b\/w.heap.size+2<=b:=λb hb=>by
      rcases hz3 b hb with h|h
      . exact hz b h
      . right;omega
     have nz3:¬Z3 (w.heap.size+1):=λh=>by rcases agS _ h with h1|h1;exact absurd (NJ _ h1) zo;omega
     have er:({({rec .ready none with state:=.busy}:Loop)with state:=(if(none:Option Code).isNone then .ready else .done),pending:=none}:Loop)=rec .ready none:=by rw[hrec];rfl
     rw[er]at he;have g4:=grownBy_putObj' W3 (w.heap.size+1) (.loop (rec .ready none));refine⟨_,_,he,rfl,(λb=>Z3 b\/b=w.heap.size\/b=w.heap.size+1),⟨Z3,rfl,agS,(hI _).grown hi3 g4 (λb e h=>by cases e;exact nz3 h),World.putObj_heap_same gz,(World.putObj_heap_other zo).trans hk3⟩,?_,?_⟩
     . refine(Chg.aGs g2 (λb e=>by cases e;exact .inr (.inr rfl))).trans (Chg.trans (hc3.mono (λb _ h=>Or.inl h)) (Chg.aGs (Y:=λb=>Zi b\/b=w.heap.size\/b=w.heap.size+1) g4 (λb e=>by cases e;exact .inr (.inr rfl))) (λb h=>.inl h)) (λb h=>.inl h)
     . rintro b (h|h|h)
       . rcases hz3 b h with h1|h1
         . exact .inl (.inl h1)
         . exact .inr zo
       . exact .inl (.inr (.inl h))
       . exact .inl (.inr (.inr h))
   |ret=>exact hp.elim
   |exit id=>exact hp.elim
   |goto t=>exact hp.elim
   |panic ch=>exact hp.elim
   |outgrown=>exact hp.elim
 . subst hJ;exact⟨Y,rfl,λb h=>.inl h,hi1,sF,hk1⟩
 . subst hJ;rintro e W2 ⟨⟨v,rfl⟩,Z,⟨Zi,rfl,hz,hi,hl,hk⟩,hc,hzz⟩;have hend:=run_endLoop (P:=P) hl (by rw[hrec];simp);have g4:∀o:Obj,W2.grownBy (W2.putObj (w.heap.size+1) o) (some (w.heap.size+1)):=λo=>grownBy_putObj' W2 _ o;have Pf:¬Zi (w.heap.size+1):=λh=>by rcases hz _ h with h1|h1;exact absurd (NJ _ h1) zo;omega
   refine⟨(rec .ready none).pending,_,hend,?_⟩;rw[show(rec .ready none).pending=none by rw[hrec]];refine hdone _ ⟨Zi,⟨(hI _).grown hi (g4 _) (λb e h=>by cases e;exact Pf h),(World.putObj_heap_other zo).trans hk,hz⟩,?_,?_⟩
   . have c1:Chg Y w W1:=Chg.aGs g1 (λb e=>by cases e);refine(c1.trans hc (λb h=>?_)).trans (Chg.aGs (Y:=λb=>b=w.heap.size+1) (g4 _) (λb e=>by cases e;rfl)) (λb h=>?_)
     . rcases h with h|h|h
       . exact .inl h
       . exact .inr zo
       . exact .inr zo
     . exact .inr zo
   . intro b h;rcases hz b h with h1|h1
     . exact .inl h1
     . exact .inr zo
def ahd {F:Fence}{n:Nat}{P:Program}{fn:Func}{tmps:Array Value}{R:Ending->World->Prop}(Ds:List Nat):∀(w:World),Ds.Nodup->(∀D∈Ds,w.heap[D]?=some (.deferred (some [])))->
 (∀w',Chg (λb=>b∈Ds) w w'->LeavesIn F n P fn tmps R [] .returning w')->LeavesInM F n P fn tmps R (Ds.map λD=>{target:=.collected D,args:=#[]}) .returning w:=by
 induction Ds with
 |nil=>intro w _ _ h;exact h w (Chg.refl _ _)
 | cons D Ds ih=>
   intro w hn hD h;rw[List.nodup_cons]at hn;refine⟨by simp,.inl ⟨D,_,rfl,run_takeDeferred (hD D zm),?_⟩⟩;refine ih _ hn.2 (λE hE=>?_) (λw' hc=>h w' ?_)
   . rw[World.putObj_heap_other (λe:E=D=>hn.1 (by rw[<-e];exact hE))];exact hD E (by simp[hE])
   . exact(Chg.aGs (grownBy_putObj' w D _) (λb e=>by cases e;simp)).trans hc (λb hb=>.inl (by simp[hb]))
def Chg.of_below {Y:Nat->Prop}{A B:World}(h:Bw A B):Chg Y A B:=⟨h.os,h.tape,h.output,h.size,λk hk _=>h.block k hk⟩
def Chg.blk {Y:Nat->Prop}{A B:World}(h:Chg Y A B){b:Nat}{t:TypeId}{cs:List Value}(hb:ar A b t cs)(hy:¬Y b):ar B b t cs:=by have:=h.block b hb.lt hy;unfold ar at hb⊢;rw[this];exact hb
def xM.below {J:(Nat->Prop)->World->Prop}(h:xM J){Y:Nat->Prop}{W W':World}(hj:J Y W)(hb:Bw W W'):J Y W':=h Y W W' hj (Chg.of_below hb)
end Go.Proofs.YtbkopgdpcijfbaaGreatDoor
