/- A statement whose order is open,walked in one order: what only reads is taken first;S is asked behind each operation but the last ones (J),for which everything else waits. -/
import Derived.Test.YtnjfebkelecgaaaGreatDoorZ6
import Derived.OrdersHeld
import Derived.Test.YtnjfebkelecgaaaGreatDoorZ5
set_option linter.unusedVariables false
set_option linter.unusedSimpArgs false
set_option maxRecDepth 100000
set_option maxHeartbeats 16000000
namespace Go.Proofs.YtnjfebkelecgaaaGreatDoor
open Go.RowKit
theorem U1 {α:Type}(l:List α)(i:Nat)(a:α):l.toArray.setIfInBounds i a=(l.set i a).toArray:=by simp
theorem U2 {α:Type}(x:α)(l:List α)(a:α):(x::l).set 0 a=a::l:=rfl
theorem U3 {α:Type}(x:α)(l:List α)(i:Nat)(a:α):(x::l).set (i+1) a=x::l.set i a:=rfl
section
variable {P:Program} {md:Region.Mode} {ops:Array Oper} {Q:Exit->Act->World->Prop} {S:World->Prop} {J:Nat->Bool}
def sN (P:Program)(md:Region.Mode)(ops:Array Oper)(Q:Exit->Act->World->Prop)(S:World->Prop)(J:Nat->Bool):Nat->Array Bool->Act->World->Prop
 |0,listed,a,w=>Region.ready md ops listed=[]/\Q .normal a w
 | fuel+1,listed,a,w=>
   (Region.ready md ops listed=[]->Q .normal a w)/\
   ∀i∈Region.ready md ops listed,wpOp P ops Q i (λa' w'=>(J i=true->S w')/\sN P md ops Q S J fuel (listed.setIfInBounds i true) a' w') a w
theorem Oo (fuel:Nat):∀(listed:Array Bool) (a:Act) (w:World),sN P md ops Q S J fuel listed a w->wpAny P md ops Q fuel listed a w:=by
 induction fuel with
 |zero=>intro _ _ _ h;exact h
 |succ n ih=>intro _ _ _ h;exact⟨h.1,λi hi=>wpOp_mono (λa' w' h'=>ih _ a' w' h'.2) (h.2 i hi)⟩
def reach (md:Region.Mode)(ops:Array Oper)(i:Nat):Nat->Nat->Bool
 |0,_=>false
 | n+1,j=>match ops[j]? with
   |some oj=>oj.after.any λe=>Region.binds md e&&(e.on==i||reach md ops i n e.on)
   |none=>false
def waits (md:Region.Mode)(ops:Array Oper)(J:Nat->Bool)(i:Nat):Bool:=
 (List.range ops.size).all λj=>j==i||J j||reach md ops i ops.size j
def Closed (md:Region.Mode)(ops:Array Oper)(listed:Array Bool):Prop:=
 ∀(k:Nat) (ok:Oper),listed.getD k false=true->ops[k]?=some ok->∀e∈ok.after,Region.binds md e=true->listed.getD e.on false=true
theorem Closed.empty (n:Nat):Closed md ops (Array.replicate n false):=by
 intro k ok h;exfalso
 rw[Array.getD_eq_getD_getElem?,Array.getElem?_replicate]at h;split at h<;>simp at h
theorem Closed.list {listed:Array Bool}(h:Closed md ops listed){j:Nat}(hj:j∈Region.ready md ops listed):Closed md ops (listed.setIfInBounds j true):=by
 obtain⟨Ti,oj,nz,hall⟩:=mem_ready.1 hj;have up:∀n,listed.getD n false=true->(listed.setIfInBounds j true).getD n false=true:=by
  intro n hn;by_cases hjn:j=n
  . subst hjn;rcases Nat.lt_or_ge j listed.size with h'|h'
    . simp[h']
    . simp[Array.getD_eq_getD_getElem?,Array.getElem?_eq_none h']at hn
  . rw[getD_set_ne false hjn];exact hn
 intro k ok hk hok e he hb;by_cases hjk:j=k
 . subst hjk;rw[nz]at hok;cases hok
   exact up _ (hall e he hb)
 . rw[getD_set_ne false hjk]at hk;exact up _ (h k ok hk hok e he hb)
theorem at6 {listed:Array Bool}(hc:Closed md ops listed){i:Nat}(n:Nat):∀(j:Nat) (oj:Oper),ops[j]?=some oj->(∀e∈oj.after,Region.binds md e=true->listed.getD e.on false=true)->reach md ops i n j=true->listed.getD i false=true:=by
 induction n with
 |zero=>intro j oj _ _ h;cases h
 | succ n ih=>
   intro j oj nz hall h;unfold reach at h;rw[nz]at h;simp only at h;rw[Array.any_eq_true]at h;obtain⟨k,hk,h2⟩:=h;simp only[Bool.and_eq_true,Bool.or_eq_true,beq_iff_eq]at h2;have h3:=hall _ (Array.getElem_mem hk) h2.1;rcases h2.2 with h4|h4
   . rw[<-h4];exact h3
   . cases ho:ops[oj.after[k].on]? with
     | none=>
       cases n with
       |zero=>cases h4
       |succ m=>unfold reach at h4;rw[ho]at h4;cases h4
     |some ok=>exact ih _ ok ho (hc _ ok h3 ho) h4
theorem awn {listed:Array Bool}(hc:Closed md ops listed){i:Nat}(h:waits md ops J i=true)(Dw:listed.getD i true=false){j:Nat}(hj:j∈Region.ready md ops listed)(hne:j≠i):J j=true:=by
 obtain⟨Ti,oj,nz,hall⟩:=mem_ready.1 hj;unfold waits at h;rw[List.all_eq_true]at h;have h1:=h j (List.mem_range.2 (Array.getElem?_eq_some_iff.1 nz).1);simp only[Bool.or_eq_true,beq_iff_eq]at h1;rcases h1 with(h1|h1) |h1
 . exact absurd h1 hne
 . exact h1
 . have h2:=at6 hc _ j oj nz hall h1;rcases Nat.lt_or_ge i listed.size with h'|h'
   . simp[h']at Dw h2;rw[Dw]at h2;cases h2
   . simp[Array.getD_eq_getD_getElem?,Array.getElem?_eq_none h']at h2
theorem JK {i:Nat}{oi:Oper}{v:Value}(hi:ops[i]?=some oi)(Ip:∀(j:Nat) (o:Oper) cs b,ops[j]?=some o->o.op≠ .select cs b)
 (hQ:∀c a w,Q (.panic c) (a.put oi.dst v) w->Q (.panic c) a w) (hJ:waits md ops J i=true) (fuel:Nat):
 ∀(listed:Array Bool) (a:Act) (w:World),Closed md ops listed->Region.free md ops listed i=true->i∈Region.ready md ops listed->YieldsIf P ops S oi v a->S w->
  sN P md ops Q S J fuel (listed.setIfInBounds i true) (a.put oi.dst v) w->sN P md ops Q S J (fuel+1) listed a w:=by
 induction fuel with
 | zero=>
   intro listed a w _ _ hr hy hS H;refine⟨λh=>(by rw[h]at hr;cases hr),λj hj=>?_⟩;by_cases hji:j=i
   . subst hji;exact hy.wpOp hi hS ⟨λ_=>hS,H⟩
   . have:=ready_mono hj hji;rw[H.1]at this;cases this
 | succ n ih=>
   intro listed a w hc hf hr hy hS H;refine⟨λh=>(by rw[h]at hr;cases hr),λj hj=>?_⟩;by_cases hji:j=i
   . subst hji;exact hy.wpOp hi hS ⟨λ_=>hS,H⟩
   . have h1:=H.2 j (ready_mono hj hji);obtain⟨Ti,oj,nz,hall⟩:=mem_ready.1 hj;have Dw:=(mem_ready.1 hr).1;have apJ:∀e∈oj.after,Region.binds md e=true->e.on≠i:=by
      intro e he hb heq;have h2:=hall e he hb;rw[heq]at h2;rcases Nat.lt_or_ge i listed.size with h'|h'
      . simp[h']at Dw h2;rw[Dw]at h2;cases h2
      . simp[Array.getElem?_eq_none h']at h2
     have hjJ:J j=true:=awn hc hJ Dw hj hji;have h2:=wpOp_putIf nz (Region.free_spec hi hf j oj nz hji Ti apJ) (λcs b=>Ip i oi cs b hi) (λcs b=>Ip j oj cs b nz) hQ hy h1;have hf':Region.free md ops (listed.setIfInBounds j true) i=true:=by
      unfold Region.free at hf⊢;rw[hi]at hf⊢;simp only[List.all_eq_true]at hf⊢;intro k hk;have:=hf k hk;simp only[Bool.or_eq_true]at this⊢;rcases this with(h3|h3) |h3
      . exact .inl (.inl h3)
      . refine .inl (.inr ?_);by_cases hjk:j=k
        . subst hjk;rcases Nat.lt_or_ge j listed.size with h'|h'
          . simp[h']
          . simp
        . rw[getD_set_ne true hjk];exact h3
      . exact .inr h3
     refine wpOp_mono (λa' w' h3=>⟨h3.2.1,ih (listed.setIfInBounds j true) a' w' (hc.list hj) hf' (ready_mono hr (Ne.symm hji)) h3.1 (h3.2.1 hjJ) ?_⟩) h2;rw[Array.setIfInBounds_comm _ _ hji];exact h3.2.2
def xz (md:Region.Mode)(ops:Array Oper)(J:Nat->Bool):List (Nat×Bool)->Array Bool->Bool
 |[],listed=>(Region.ready md ops listed).isEmpty
 | (i,true)::rest,listed=>(Region.ready md ops listed).contains i&&Region.free md ops listed i&&waits md ops J i&&xz md ops J rest (listed.setIfInBounds i true)
 | (i,false)::rest,listed=>Region.ready md ops listed==[i]&&(J i|| !rest.any (·.2))&&xz md ops J rest (listed.setIfInBounds i true)
def bD (P:Program)(ops:Array Oper)(Q:Exit->Act->World->Prop)(S:World->Prop)(J:Nat->Bool):List (Nat×Bool)->Act->World->Prop
 |[],a,w=>Q .normal a w
 | (i,true)::rest,a,w=>∃o v,ops[i]?=some o/\YieldsIf P ops S o v a/\bD P ops Q S J rest (a.put o.dst v) w
 | (i,false)::rest,a,w=>wpOp P ops Q i (λa' w'=>(J i=true->S w')/\bD P ops Q S J rest a' w') a w
theorem Om (hs:Region.noSelect ops=true)(hQ:∀(o:Oper) c a v w,Q (.panic c) (a.put o.dst v) w->Q (.panic c) a w)(plan:List (Nat×Bool)):
 ∀(listed:Array Bool) (a:Act) (w:World),Closed md ops listed->xz md ops J plan listed=true->(plan.any (·.2)=true->S w)->bD P ops Q S J plan a w->sN P md ops Q S J plan.length listed a w:=by
 induction plan with
 |nil=>intro listed a w _ hok _ h;exact⟨List.isEmpty_iff.1 hok,h⟩
 | cons x rest ih=>
   obtain⟨i,b⟩:=x;intro listed a w hc hok hS h;cases b with
   |true=>simp only[xz,Bool.and_eq_true]at hok;obtain⟨⟨⟨h1,h2⟩,h3⟩,h4⟩:=hok;obtain⟨o,v,ho,hy,h⟩:=h;have hSw:S w:=hS zm;exact JK ho (Region.noSelect_spec hs) (λc a w=>hQ o c a v w) h3 rest.length listed a w hc h2 (by simpa using h1) hy hSw (ih _ _ _ (hc.list (by simpa using h1)) h4 (λ_=>hSw) h)
   | false=>
     simp only[xz,Bool.and_eq_true,beq_iff_eq]at hok;obtain⟨⟨h1,h2⟩,h3⟩:=hok;refine⟨λh0=>(by rw[h1]at h0;cases h0),λj hj=>?_⟩;rw[h1]at hj;obtain rfl:j=i:=by simpa using hj
     refine wpOp_mono (λa' w' h4=>⟨h4.1,ih _ _ _ (hc.list (by rw[h1];exact List.mem_singleton.2 rfl)) h3 (λAL=>?_) h4.2⟩) h;rw[Bool.or_eq_true]at h2;rcases h2 with h2|h2
     . exact h4.1 h2
     . rw[AL]at h2;cases h2
theorem cg {id:Nat}{a:Act}{w:World}(S:World->Prop)(J:Nat->Bool)(plan:List (Nat×Bool))(hm:P.follows .mixedOrders=true)(hs:Region.noSelect ops=true)
 (hl:plan.length=ops.size) (hok:xz .any ops J plan (Array.replicate ops.size false)=true)
 (hQ:∀(o:Oper) c a v w,Q (.panic c) (a.put o.dst v) w->Q (.panic c) a w) (hS:S w.drew) (h:bD P ops Q S J plan a w.drew):(Code.region id ops true).wp P Q a w:=by
 refine wp_region_any hm (Oo ops.size _ _ _ ?_ (S:=S) (J:=J));have:=Om (md:=.any) (S:=S) (J:=J) hs hQ plan (Array.replicate ops.size false) a w.drew (Closed.empty _) hok (λ_=>hS) h;rw[hl]at this;exact this
theorem NJ {i:Nat}{rest:List (Nat×Bool)}{o:Oper}{v:Value}{a:Act}{w:World}(ho:ops.toList[i]?=some o)(hw:Region.wanted o (yielded ops a.tmps)=true)
 (hy:∀w',S w'->(execOp a.eval o).run P w'=.ok (.value v) w') (h:bD P ops Q S J rest (a.put o.dst v) w):bD P ops Q S J ((i,true)::rest) a w:=
 ⟨o,v,by rw[<-Array.getElem?_toList];exact ho,.inl ⟨hw,hy⟩,h⟩
theorem pT {i:Nat} {rest:List (Nat×Bool)} {o:Oper} {v:Value} {a:Act} {w:World} (ho:ops.toList[i]?=some o) (hw:Region.wanted o (yielded ops a.tmps)=true)
  (h:bD P ops Q S J rest (a.put o.dst v) w) (hy:∀w',S w'->(execOp a.eval o).run P w'=.ok (.value v) w':=by(intro w' hw';go_simp;try with_reducible rfl)):bD P ops Q S J ((i,true)::rest) a w:=NJ ho hw hy h
theorem UU :(∀(a:Act) (d:Nat) (v:Value),a.put (some d) v=⟨a.tmps.setIfInBounds d v,a.defers⟩)/\(∀(a:Act) (v:Value),a.put none v=a)/\(∀(α:Type) (l:List α) (i:Nat) (a:α),l.toArray.setIfInBounds i a=(l.set i a).toArray)/\(∀(α:Type) (x:α) (l:List α) (a:α),(x::l).set 0 a=a::l)/\(∀(α:Type) (x:α) (l:List α) (i:Nat) (a:α),(x::l).set (i+1) a=x::l.set i a):=⟨λ_ _ _=>rfl,λ_ _=>rfl,λ_ l i a=>U1 l i a,λ_ _ _ _=>rfl,λ_ _ _ _ _=>rfl⟩
theorem aW {i:Nat}{rest:List (Nat×Bool)}{o:Oper}{a:Act}{w:World}(ho:ops.toList[i]?=some o)(hw:Region.wanted o (yielded ops a.tmps)=true)
 (h:∀K:Act->World->Prop,(∀a' w',(J i=true->S w')->bD P ops Q S J rest a' w'->K a' w')->o.wp P a w K Q):bD P ops Q S J ((i,false)::rest) a w:=by
 show wpOp P ops Q i _ a w
 rw[Array.getElem?_toList]at ho;unfold wpOp;simp only[ho,hw,if_true];exact .inl (h _ (λa' w' h1 h2=>⟨h1,h2⟩))
theorem cn {plan:List (Nat×Bool)}{a:Act}{W:World}(R:World->Prop)(hR:R W)(h:∀W',R W'->bD P ops Q S J plan a W'):bD P ops Q S J plan a W:=h W hR
end
theorem aU {w:World}{p a:Addr}{u v:Value}(hne:a.block≠p.block\/a.off≠p.off)(h:w.cell? a=some v):(w.setCell p u).cell? a=some v:=by rw[World.cell?_setCell_other w p a u (λe=>by subst e;rcases hne with h|h<;>exact h rfl)];exact h
section
variable {P:Program} {md:Region.Mode} {ops:Array Oper} {Q:Exit->Act->World->Prop} {S:World->Prop} {J:Nat->Bool}
end
theorem Rc {a b:Nat}(h:b<a):dx a b=1:=by unfold dx;rw[if_neg zo,if_pos h]
theorem Re {a b:Nat}(h:a<=b):dx a b<=0:=by unfold dx;split;decide;rw[if_neg zo];decide
theorem akR (n:Nat):WW^(n+1)=WW^n*WW:=Nat.pow_succ _ _
theorem BA {By q n:Nat}(hB:By<WW^n)(hq:q<WW):By*q<WW^(n+1):=by
 rw[akR];rcases Nat.eq_zero_or_pos q with h|h
 . subst h;rw[Nat.mul_zero];exact Nat.mul_pos (eK n) kj
 . exact Nat.mul_lt_mul'' hB hq
theorem aec (a:Option Addr)(L iA b2 o2 n cap2 By pb po Vi P q:Nat)(w:World)(hn:n<=1099511627774)(AQ:n<=cap2)(hpc:n+1<=Vi)(hy:ey w b2 o2 n By)(hB:By<WW^n)(hBp:0<By)
 (hp:ey w pb po (n+1) P) (hP:P<WW^(n+1)) (hq:P/By<q) (hqW:q<WW):
 Calls Tryz.prog 208 #[.agg #[.slice a L iA,.slice (some ⟨b2,o2,none⟩) n cap2],.slice (some ⟨pb,po,none⟩) (n+1) Vi,.int .u64 (q:Int)] w λe w'=>∃mb,
  e=.returned (.tuple #[.int .u64 ((P/By:Nat):Int),.slice (some ⟨mb,0,none⟩) (n+1) (n+1)])/\(aC w' mb 152 (bX (n+1) (dg (By* (P/By))))/\w.heap.size<=mb)/\Bw w w':=by
 obtain⟨Hy,HB,WG,Hp,HP⟩:=fU hy hB hBp hp hP;obtain⟨D,hD⟩:=aK (P/By);have HD:=aj hD;rw[hD]at hq⊢;rw[ki]at hqW;have lpb:pb<w.heap.size:=World.block_lt_of_cell? w _ (hp 0 zo);have oZ:0<n->b2<w.heap.size:=λh=>World.block_lt_of_cell? w _ (hy 0 h);have hn0:0<n:=by
  rcases Nat.eq_zero_or_pos n with h|h
  . subst h;simp at hB;omega
  . exact h
 obtain⟨Lpb,Lb2⟩:=aZ lpb (oZ hn0);clear hy hB hBp hp hP hD lpb oZ;have hmk:=Br ((n:Int)+1) (n+1) zo zo;obtain⟨W,dw,Hb,Hx⟩:=jT w 219 [.slice a L iA,.slice (some ⟨b2,o2,none⟩) n cap2];obtain⟨x0,x1⟩:=Hx.out.c2;go_enter Tryz.func208,Tryz.ntmps208;go_wp2_with fail;go_loopw[2,8] (λqv _ wr=>∃k:Nat,D<k/\k<=q/\qv=.int .u64 (k:Int)/\aC wr w.heap.size 219 [.slice a L iA,.slice (some ⟨b2,o2,none⟩) n cap2]/\Bw w wr) (λqv _ _=>(intOf qv).toNat);case atStart=>exact⟨q,hq,Nat.le_refl _,rfl,Hx.out,Hb.out⟩
 case round=>
  clear x0 x1 Hx Hb;obtain⟨k,hk1,hk2,rfl,px,pb'⟩:=hrel;obtain⟨Hx,Hb⟩:=aZ px pb';clear px pb';obtain⟨m,rfl⟩:∃m,k=m+1:=⟨k-1,by omega⟩;have hm:IntKind.u64.wrap (((m+1:Nat):Int)-1)=(m:Int):=by rw[IntKind.wrap_u64];omega
  obtain⟨x0,x1⟩:=Hx.out.c2;have hmW:m<WW:=by rw[ki];omega
  have Yf:=aj hmW;clear hmW;have lx:=Hx.out.lt;have sz:=Hb.out.size;obtain⟨W2,hW2⟩:=aK (wr.alloc (.cells (bX (n+1) λ_=>0).toArray 152));have hb2:Bw wr W2:=by rw[<-hW2];exact zl
  have fC:Hid (aC W2 wr.heap.size 152 (bX (n+1) λ_=>0)):=by rw[<-hW2];exact aC.new _ _ _
  replace Hx:=aj (Hx.out.below hb2);have eP:=aj (aV Hb.out hb2);have sW2:W2.heap.size=wr.heap.size+1:=by rw[<-hW2];simp
  have axd:=aj sW2;clear sW2 hb2;obtain⟨y0,y1⟩:=Hx.out.c2;go_wp2_with fail;refine(Np wr.heap.size (n+1) 0 (n+1) (n+1) (λ_=>0) 0 b2 o2 n cap2 By m W2 zo zo fC.out zo (λj _=>by unfold dg;rw[Nat.zero_div];rfl) (Hy.out.below eP.out) HB.out (by have:=Lb2.out;omega) Yf.out).mono ?_;rintro e w3 ⟨rfl,qB,qg⟩
  have eB:bX (n+1) (gA (λ_=>0) 0 (n+1) (dg (0+By*m)))=bX (n+1) (dg (By*m)):=kV (λj hj=>by
   have:=Je (λ_=>0) 0 (n+1) (dg (0+By*m)) j hj
   simpa only[Nat.zero_add]using this)
  rw[eB]at qB;obtain⟨kZ,XM⟩:=aZ qB qg;have tW:=BA HB.out Yf.out;have yK:=jP tW;obtain⟨EF,yb⟩:=aZ tW (Hx.out.grown qg (λh=>by have:=Option.some.inj h;omega));have rT:Hid (ey w3 pb po (n+1) P):=(Hp.out.below eP.out).grown qg (λh=>by have:=Option.some.inj h;have:=Lpb.out;omega);have eJ:=aj (eP.out.grown qg (by have:=eP.out.size;omega) (λj e=>by have:=Option.some.inj e;omega));clear qB qg eB tW x0 x1 y0 y1;obtain⟨x0,x1⟩:=yb.out.c2;go_wp2_with fail;refine(mo wr.heap.size 0 (n+1) (n+1) (By*m) w3 zo (Nat.le_refl _) (kZ.out.lim _ (Nat.le_refl _)) EF.out).mono ?_;rintro e w4 ⟨rfl,rfl⟩;go_wp2_with fail;refine(Bq wr.heap.size 0 (ln (By*m)) (n+1) (By*m) pb po (n+1) Vi P w3 zo yK (kZ.out.lim _ yK) (fe _) zo hpc rT.out HP.out).mono ?_;rintro e w5 ⟨rfl,dm⟩;obtain⟨eX,CC,gD⟩:=dc dm (yb.out.below dm) (kZ.out.below dm);clear dm x0 x1;obtain⟨x0,x1⟩:=CC.out.c2;have oP:=Nat.div_add_mod P By;have Dz:=Nat.mod_lt P WG.out;rw[HD.out]at oP;by_cases hle:By*m<=P
  . have Tt:D=m:=by
     have h1:m<=D:=by rw[<-HD.out];exact(Nat.le_div_iff_mul_le WG.out).2 (by rw[Nat.mul_comm];exact hle)
     omega
    subst Tt;have ny:=Re hle;clear oP Dz hle;generalize dx (By*D) P=c at*;go_wp2;refine bodyPost_ret (v:=.tuple #[.int .u64 (D:Int),.slice (some ⟨wr.heap.size,0,none⟩) (n+1) (n+1)]) (by simp[results,Tryz.results208,go_sem]) rfl ⟨wr.heap.size,rfl,⟨gD.out,sz⟩,aV eJ.out eX.out⟩
  . have hlt:D<m:=by
     rcases Nat.lt_or_ge D m with h|h
     . exact h
     . exact absurd (Nat.le_trans (Nat.mul_le_mul_left By h) zo) hle
    have ny:=Rc (a:=By*m) (b:=P) zo;clear oP Dz;rw[ny];go_wp2;go_roundw;case rel=>exact⟨m,hlt,by omega,by go_num,CC.out,aV eJ.out eX.out⟩
    case measure=>simp[intOf]
theorem _root_.Go.RowKit.Below.thenGrown {w a c:World}{b:Nat}(h:Bw w a)(k:a.grownBy c (some b)):w.grownBy c (some b):=
 ⟨k.os.trans h.os,k.tape.trans h.tape,k.output.trans h.output,Nat.le_trans h.size k.size,λi hi hn=>(k.block i (Nat.lt_of_lt_of_le hi h.size) hn).trans (h.block i hi)⟩
def Wn (w:World)(b o:Nat)(cs:List Value):Prop:=∀j (h:j<cs.length),w.cell? ⟨b,o+j,none⟩=some cs[j]
theorem Wn.cell {w:World}{b o:Nat}{cs:List Value}(h:Wn w b o cs)(j:Nat)(hj:j<cs.length):w.cell? ⟨b,o+j,none⟩=some cs[j]:=h j hj
theorem Wn.below {w w':World}{b o:Nat}{cs:List Value}(h:Wn w b o cs)(hb:Bw w w'):Wn w' b o cs:=λj hj=>cell_later hb (h j hj)
theorem ant (h lo y:Nat)(w:World)(hy1:9223372036854775808<=y)(hy:y<WW)(hh:h<y)(hl:lo<WW):
 Calls Tryz.prog 207 #[.int .u64 (h:Int),.int .u64 (lo:Int),.int .u64 (y:Int)] w λe w'=>(∃r,e=.returned (.tuple #[.int .u64 (((h*WW+lo)/y:Nat):Int),.int .u64 r]))/\Bw w w':=by
 rcases Nat.eq_zero_or_pos h with h0|h0
 . subst h0;refine(anv lo y w zo hy hl).mono ?_;rintro e w' ⟨r,rfl,hb⟩;refine⟨⟨r,?_⟩,hb⟩;rw[Nat.zero_mul,Nat.zero_add]
 . refine(anu h lo y w hy1 hy hh hl h0).mono ?_;rintro e w' ⟨r,he,hb⟩;exact⟨⟨r,he⟩,hb⟩
theorem take_at {R By at' n:Nat}(hR:R<WW^(at'+n+1))(j:Nat):
 gA (dg R) at' (n+1) (dg (R/WW^at'-By* (R/WW^at'/By))) j=dg (R-By* (R/WW^at'/By) *WW^at') j:=by
 obtain⟨P,hP⟩:=aK (R/WW^at');obtain⟨lo,hlo⟩:=aK (R%WW^at');obtain⟨S,hS⟩:=aK (By* (P/By));have hl:lo<WW^at':=by rw[<-hlo];exact Nat.mod_lt _ (eK _)
 have e:=Nat.div_add_mod R (WW^at');rw[hP,hlo]at e;have hSP:S<=P:=by rw[<-hS];exact Nat.mul_div_le _ _
 have Mf:P<WW^(n+1):=by rw[<-hP];refine Nat.div_lt_of_lt_mul ?_;rw[<-Nat.pow_add];exact hR
 rw[hP,hS];have e1:R=P*WW^at'+lo:=by rw[<-e,Nat.mul_comm]
 have e2:R-S*WW^at'=(P-S) *WW^at'+lo:=by have:S*WW^at'<=P*WW^at':=Nat.mul_le_mul_right _ hSP;rw[e1,Nat.sub_mul];omega
 rw[e2,aab _ _ _ _ hl];unfold gA;by_cases h1:j<at'
 . rw[if_neg zo,if_pos h1,e1,aab _ _ _ _ hl,if_pos h1]
 . rw[if_neg h1];by_cases h2:j<at'+(n+1)
   . rw[if_pos zo]
   . rw[if_neg zo,uX (k:=at'+n+1) hR zo,uX (k:=n+1) (Nat.lt_of_le_of_lt (Nat.sub_le _ _) Mf) zo]
theorem ans (b L iA R b2 o2 n cap2 By at':Nat)(w:World)(hL:L<=1099511627775)(hLc:L<=iA)(hn:0<n)(AQ:n<=cap2)(hB:aC w b 152 (bX L (dg R)))(hy:ey w b2 o2 n By)(LS:By<WW^n)(htop:9223372036854775808<=dg By (n-1))
 (hR:R<By*WW^(at'+1)) (hat:at'+n+1<=L) (hne:b2≠b):
 Calls Tryz.prog 199 #[.agg #[.slice (some ⟨b,0,none⟩) L iA,.slice (some ⟨b2,o2,none⟩) n cap2],ah (at':Int)] w λe w'=>
  e=.returned (.int .u64 ((R/WW^at'/By:Nat):Int))/\aC w' b 152 (bX L (dg (R-By* (R/WW^at'/By) *WW^at')))/\w.grownBy w' (some b):=by
 have aaJ:0<By:=by
  rcases Nat.eq_zero_or_pos By with h|h
  . subst h;unfold dg at htop;simp at htop
  . exact h
 have Sq:R<WW^(at'+n+1):=by refine Nat.lt_of_lt_of_le hR ?_;rw[show WW^(at'+n+1)=WW^n*WW^(at'+1)by rw[<-Nat.pow_add];congr 1;omega];exact Nat.mul_le_mul_right _ (Nat.le_of_lt LS)
 have htake:=λj=>take_at (R:=R) (By:=By) (at':=at') (n:=n) Sq j;obtain⟨P,hP⟩:=aK (R/WW^at');have hPB:P<By*WW:=by rw[<-hP];refine Nat.div_lt_of_lt_mul ?_;rw[<-Nat.mul_assoc,Nat.mul_comm _ By,Nat.mul_assoc,Nat.mul_comm (WW^at'),<-Nat.pow_succ'];exact hR
 have hPW:P<WW^(n+1):=by rw[<-hP];refine Nat.div_lt_of_lt_mul ?_;rw[<-Nat.pow_add];exact Sq
 have Gq:∀j,dg P j=dg R (at'+j):=λj=>by rw[<-hP];exact Lu R at' j
 obtain⟨G,hG⟩:=aK (if dg P n<dg By (n-1)then(dg P n*WW+dg P (n-1))/dg By (n-1)else WW-1);have hge:=aoy (P:=P) (by':=By) hn hPB zo LS;rw[hG]at hge;have SI:=kq By (n-1);have Sw:=kq P (n-1);obtain⟨top,DN⟩:=aK (dg P n);obtain⟨T0,hT0⟩:=aK (dg P (n-1));obtain⟨b1,hb1⟩:=aK (dg By (n-1));rw[DN,hT0,hb1]at hG;rw[hb1]at htop SI;rw[hT0]at Sw;have hlb:=hB.lt;have apC:b2<w.heap.size:=World.block_lt_of_cell? w _ (hy 0 hn);have Ri:w.cell? ⟨b,at'+n,none⟩=some (.int .u64 (top:Int)):=by rw[hB.cell,gV _ _ _ zo,<-DN,Gq]
 have QX:w.cell? ⟨b,at'+n-1,none⟩=some (.int .u64 (T0:Int)):=by rw[hB.cell,gV _ _ _ zo,<-hT0,Gq];congr 4;omega
 have QY:w.cell? ⟨b2,o2+(n-1),none⟩=some (.int .u64 (b1:Int)):=by rw[<-hb1];exact hy _ zo
 have yN:ey w b at' (n+1) P:=λj hj=>by rw[hB.cell,gV _ _ _ zo,Gq]
 have i1:=IQ L iA (at'+n) ((at':Int)+(n:Int)) (rfl:(some ⟨b,0,none⟩:Option Addr)=_) zo zo;have i2:=IQ L iA (at'+n-1) ((at':Int)+(n:Int)-1) (rfl:(some ⟨b,0,none⟩:Option Addr)=_) zo zo;have i3:=IQ n cap2 (n-1) ((n:Int)-1) (rfl:(some ⟨b2,o2,none⟩:Option Addr)=_) zo zo;rw[Nat.mul_one,Nat.zero_add]at i1 i2;rw[Nat.mul_one]at i3;have hsl:at'+n+1-at'=n+1:=by omega
 have hmk:=Br ((n:Int)+1) (n+1) zo zo;obtain⟨Xr,Hy,uE,JQ,xL,HP,XP,WI,KB,Cx,Hne,JS⟩:=gy hB hy LS aaJ hPW hP hge hG htake yN hne Gq;obtain⟨Fu,ahU,Xa⟩:=dc htop SI Sw;obtain⟨D,hD⟩:=aK (P/By);have HD:=aj hD;rw[hP,hD];rw[hD]at hge;have OT:Hid (Wn w b (at'+n) [.int .u64 (top:Int)]):=λj hj=>by
  obtain rfl:j=0:=by simp at hj;omega
  exact Ri
 have zR:Hid (Wn w b (at'+n-1) [.int .u64 (T0:Int)]):=λj hj=>by
  obtain rfl:j=0:=by simp at hj;omega
  exact QX
 have zS:Hid (Wn w b2 (o2+(n-1)) [.int .u64 (b1:Int)]):=λj hj=>by
  obtain rfl:j=0:=by simp at hj;omega
  exact QY
 clear hB hy LS aaJ hPW hP hge hG htake yN hne htop SI Sw hD hPB Gq Sq hR DN hT0 hb1 Ri QX QY;obtain⟨W,dw,Hb,Hx⟩:=jT w 219 [.slice (some ⟨b,0,none⟩) L iA,.slice (some ⟨b2,o2,none⟩) n cap2];obtain⟨x0,x1⟩:=Hx.out.c2;replace OT:=aj (OT.out.below Hb.out);replace zR:=aj (zR.out.below Hb.out);replace zS:=aj (zS.out.below Hb.out);have Ri:W.cell? ⟨b,at'+n,none⟩=some (.int .u64 (top:Int)):=OT.out.cell 0 zm;have QX:W.cell? ⟨b,at'+n-1,none⟩=some (.int .u64 (T0:Int)):=zR.out.cell 0 zm;have QY:W.cell? ⟨b2,o2+(n-1),none⟩=some (.int .u64 (b1:Int)):=zS.out.cell 0 zm;go_enter Tryz.func199,Tryz.ntmps199;by_cases hlt:top<b1
 . have bM:(top:Int)<(b1:Int):=by omega
   have Dr:=λW=>ant top T0 b1 W Fu.out ahU.out hlt Xa.out;have yo:=WI.out;rw[if_pos hlt]at yo;rw[yo]at Dr;have qI:Hid (G<WW):=by
    show _<_
    rw[<-yo];refine Nat.div_lt_of_lt_mul ?_;have h1:=Xa.out;have h2:(top+1) *WW<=b1*WW:=Nat.mul_le_mul_right _ hlt;rw[Nat.add_mul,Nat.one_mul]at h2;omega
   have Cj:=aj Dr;clear Dr yo;go_wp2_with fail;have k1:IntKind.i64.wrap ((at':Int)+(n:Int))=(at':Int)+(n:Int):=by rw[IntKind.wrap_i64];omega
   have k2:IntKind.i64.wrap ((at':Int)+(n:Int)-1)=(at':Int)+(n:Int)-1:=by rw[IntKind.wrap_i64];omega
   have k3:IntKind.i64.wrap ((n:Int)-1)=(n:Int)-1:=by rw[IntKind.wrap_i64];omega
   obtain⟨x0,x1⟩:=Hx.out.c2;have Lf:W.cell? ⟨b,at'+n-1,none⟩=some (.int .u64 (T0:Int)):=zR.out.cell 0 zm;have Lh:W.cell? ⟨b2,o2+(n-1),none⟩=some (.int .u64 (b1:Int)):=zS.out.cell 0 zm;refine cg (λw'=>aH w' (w.heap.size) 0 (.slice (some ⟨b,0,none⟩) L iA)/\aH w' (w.heap.size) 1 (.slice (some ⟨b2,o2,none⟩) n cap2)/\aH w' b (at'+n-1) (.int .u64 (T0:Int))/\aH w' b2 (o2+(n-1)) (.int .u64 (b1:Int))) (λi=>Nat.blt i 100000) [(0,true),(1,true),(2,true),(3,true),(4,true),(5,true),(6,true),(7,true),(8,true),(9,true),(10,true),(11,true),(12,true),(13,true),(14,true),(15,false),(16,true),(17,true),(18,true),(19,true)] zk zk rfl zk zc ⟨x0,x1,Lf,Lh⟩ ?_;iterate 15 (refine pT rfl rfl ?_ (by intro w' ⟨q0,q1,q2,q3⟩;go_simp;try with_reducible rfl))
   refine aW rfl rfl (λK hK=>?_);go_simp;with_reducible refine(Cj.out _).mono ?_
   rintro e w1 ⟨⟨r,rfl⟩,hq⟩;have ag:Bw W w1:=by first|exact hq|exact bo hq
   clear x0 x1 Lf Lh;replace Hx:=kB Hx ag;replace zR:=aj (zR.out.below ag);replace zS:=aj (zS.out.below ag);obtain⟨x0,x1⟩:=Hx.out.c2;have Lf:w1.cell? ⟨b,at'+n-1,none⟩=some (.int .u64 (T0:Int)):=zR.out.cell 0 zm;have Lh:w1.cell? ⟨b2,o2+(n-1),none⟩=some (.int .u64 (b1:Int)):=zS.out.cell 0 zm;replace Hb:=aF Hb ag;clear ag;refine hK _ _ (λ_=>⟨x0,x1,Lf,Lh⟩) ?_;clear hK K
   iterate 4 (refine pT rfl rfl ?_)
   simp only[bD];have VN:=Hb.out.size;have lx:=Hx.out.lt;obtain⟨W2,hW2⟩:=aK (w1.alloc (.cells (bX (n+1) λ_=>0).toArray 152));have hb2:Bw w1 W2:=by rw[<-hW2];exact zl
   have fC:Hid (aC W2 w1.heap.size 152 (bX (n+1) λ_=>0)):=by rw[<-hW2];exact aC.new _ _ _
   obtain⟨eP,tC⟩:=aZ (aV Hb.out hb2) (Hx.out.below hb2);clear hb2;obtain⟨y0,y1⟩:=tC.out.c2;go_wp2_with fail;refine(Np w1.heap.size (n+1) 0 (n+1) (n+1) (λ_=>0) 0 b2 o2 n cap2 By G W2 zo zo fC.out zo (λj _=>by unfold dg;rw[Nat.zero_div];rfl) (Hy.out.below eP.out) uE.out zo qI.out).mono ?_;rintro e w3 ⟨rfl,qB,qg⟩
   have eB:bX (n+1) (gA (λ_=>0) 0 (n+1) (dg (0+By*G)))=bX (n+1) (dg (By*G)):=kV (λj hj=>by
    have:=Je (λ_=>0) 0 (n+1) (dg (0+By*G)) j hj
    simpa only[Nat.zero_add]using this)
   rw[eB]at qB;have kZ:=aj qB;have tW:=BA uE.out qI.out;have yK:=jP tW;obtain⟨EF,yb⟩:=aZ tW (tC.out.grown qg (λh=>by have:=Option.some.inj h;omega));have rT:Hid (ey w3 b at' (n+1) P):=(Cx.out.below eP.out).grown qg (λh=>by have:=Option.some.inj h;omega);obtain⟨OM,eJ⟩:=aZ ((Xr.out.below eP.out).grown qg (λh=>by have:=Option.some.inj h;omega)) (eP.out.grown qg (by have:=eP.out.size;omega) (λj e=>by have:=Option.some.inj e;omega));clear qB qg eB tW x0 x1 y0 y1;obtain⟨x0,x1⟩:=yb.out.c2;go_wp2_with fail;refine(mo w1.heap.size 0 (n+1) (n+1) (By*G) w3 zo (Nat.le_refl _) (kZ.out.lim _ (Nat.le_refl _)) EF.out).mono ?_;rintro e w4 ⟨rfl,rfl⟩;go_wp2_with fail;refine(Bq w1.heap.size 0 (ln (By*G)) (n+1) (By*G) b at' (n+1) (iA-at') P w3 zo yK (kZ.out.lim _ yK) (fe _) zo zo rT.out xL.out).mono ?_;rintro e w5 ⟨rfl,dm⟩;obtain⟨eX,CC,vP,jC⟩:=eN dm (yb.out.below dm) (kZ.out.below dm) (OM.out.below dm);have qH:=aj (aV eJ.out eX.out);clear dm x0 x1;obtain⟨x0,x1⟩:=CC.out.c2;by_cases hle:By*G<=P
   . have Gm:D=G:=by
      have h1:G<=D:=by rw[<-HD.out];exact(Nat.le_div_iff_mul_le JQ.out).2 (by rw[Nat.mul_comm];exact hle)
      have h2:=XP.out;rw[HD.out]at h2;omega
     have zK:=aj Gm;have ny:=Re hle;have Cn:=aj hle;clear Gm hle;obtain⟨c,hc⟩:=aK (dx (By*G) P);rw[hc]at ny;rw[hc];clear hc;have aph:¬0<c:=by omega
     go_wp2_with fail;refine(IX b L at' (n+1) (iA-at') (dg R) P w1.heap.size 0 (n+1) (n+1) (By*G) w5 zo zo jC.out zo (λj _=>(JS.out j).symm) (vP.out.lim _ (Nat.le_refl _)) (BA uE.out (by first|exact qI.out|exact Ez.out)) ZS Cn.out xL.out).mono ?_;rintro e w6 ⟨rfl,pk,uA⟩
     have tL:bX L (gA (dg R) at' (n+1) (dg (P-By*G)))=bX L (dg (R-By*G*WW^at')):=kV (λj _=>by
      have h:=KB.out j;rw[HP.out,HD.out,zK.out]at h
      exact h)
     rw[tL]at pk;obtain⟨lN,wu⟩:=aZ pk uA;clear pk uA tL;go_wp2;refine bodyPost_ret (v:=.int .u64 (D:Int)) (by have hh:=zK.out;simp[results,Tryz.results199,go_sem,hh]) rfl ⟨rfl,by rw[zK.out];exact lN.out,Below.thenGrown qH.out wu.out⟩
   . have ny:=Rc (a:=By*G) (b:=P) zo;have hDl:P/By<G:=by
      rcases Nat.lt_or_ge (P/By) G with h|h
      . exact h
      . exact absurd (Nat.le_trans (Nat.mul_le_mul_left By h) (Nat.mul_div_le _ _)) hle
     have ED:=aj hDl;have Ez:Hid (D<WW):=by have h1:=qI.out;have h2:=ED.out;rw[HD.out]at h2;exact Nat.lt_trans h2 h1
     clear hDl hle;rw[ny];clear ny;go_wp2_with fail;refine(aec (some ⟨b,0,none⟩) L iA b2 o2 n cap2 By b at' (iA-at') P G w5 zo AQ zo (Hy.out.below qH.out) uE.out JQ.out (rT.out.below eX.out) xL.out ED.out qI.out).mono ?_;rintro e w7 ⟨mb,rfl,⟨qM,lmb⟩,qb⟩;have Oa:=qH.out.size;replace vP:=aj qM;replace jC:=aj (jC.out.below qb);replace qH:=aj (aV qH.out qb);rw[HD.out]at vP;rw[HD.out];have NZ:=jC.out.lt;clear qM qb x0 x1;go_wp2_with fail;refine(IX b L at' (n+1) (iA-at') (dg R) P mb 0 (n+1) (n+1) (By*D) w7 zo zo jC.out zo (λj _=>(JS.out j).symm) (vP.out.lim _ (Nat.le_refl _)) (BA uE.out (by first|exact qI.out|exact Ez.out)) ZS (by rw[<-HD.out];exact Nat.mul_div_le _ _) xL.out).mono ?_;rintro e w6 ⟨rfl,pk,uA⟩
     have tL:bX L (gA (dg R) at' (n+1) (dg (P-By*D)))=bX L (dg (R-By*D*WW^at')):=kV (λj _=>by
      have h:=KB.out j;rw[HP.out,HD.out]at h
      exact h)
     rw[tL]at pk;obtain⟨lN,wu⟩:=aZ pk uA;clear pk uA tL;go_wp2;refine bodyPost_ret (results_tmp rfl _ _ _) rfl ⟨rfl,lN.out,Below.thenGrown qH.out wu.out⟩
 . have bM:¬(top:Int)<(b1:Int):=by omega
   have yo:=WI.out;rw[if_neg hlt,ki]at yo;have aoH:18446744073709551615=G:=yo;subst aoH;have qI:Hid (18446744073709551615<WW):=by show _<_;rw[ki];decide
   clear yo;have VN:=Hb.out.size;have lx:=Hx.out.lt;obtain⟨W2,hW2⟩:=aK (W.alloc (.cells (bX (n+1) λ_=>0).toArray 152));have hb2:Bw W W2:=by rw[<-hW2];exact zl
   have fC:Hid (aC W2 W.heap.size 152 (bX (n+1) λ_=>0)):=by rw[<-hW2];exact aC.new _ _ _
   obtain⟨eP,tC⟩:=aZ (aV Hb.out hb2) (Hx.out.below hb2);clear hb2;obtain⟨y0,y1⟩:=tC.out.c2;go_wp2_with fail;refine(Np W.heap.size (n+1) 0 (n+1) (n+1) (λ_=>0) 0 b2 o2 n cap2 By 18446744073709551615 W2 zo zo fC.out zo (λj _=>by unfold dg;rw[Nat.zero_div];rfl) (Hy.out.below eP.out) uE.out zo qI.out).mono ?_;rintro e w3 ⟨rfl,qB,qg⟩
   have eB:bX (n+1) (gA (λ_=>0) 0 (n+1) (dg (0+By*18446744073709551615)))=bX (n+1) (dg (By*18446744073709551615)):=kV (λj hj=>by
    have:=Je (λ_=>0) 0 (n+1) (dg (0+By*18446744073709551615)) j hj
    simpa only[Nat.zero_add]using this)
   rw[eB]at qB;have kZ:=aj qB;have tW:=BA uE.out qI.out;have yK:=jP tW;obtain⟨EF,yb⟩:=aZ tW (tC.out.grown qg (λh=>by have:=Option.some.inj h;omega));have rT:Hid (ey w3 b at' (n+1) P):=(Cx.out.below eP.out).grown qg (λh=>by have:=Option.some.inj h;omega);obtain⟨OM,eJ⟩:=aZ ((Xr.out.below eP.out).grown qg (λh=>by have:=Option.some.inj h;omega)) (eP.out.grown qg (by have:=eP.out.size;omega) (λj e=>by have:=Option.some.inj e;omega));clear qB qg eB tW x0 x1 y0 y1;obtain⟨x0,x1⟩:=yb.out.c2;go_wp2_with fail;refine(mo W.heap.size 0 (n+1) (n+1) (By*18446744073709551615) w3 zo (Nat.le_refl _) (kZ.out.lim _ (Nat.le_refl _)) EF.out).mono ?_;rintro e w4 ⟨rfl,rfl⟩;go_wp2_with fail;refine(Bq W.heap.size 0 (ln (By*18446744073709551615)) (n+1) (By*18446744073709551615) b at' (n+1) (iA-at') P w3 zo yK (kZ.out.lim _ yK) (fe _) zo zo rT.out xL.out).mono ?_;rintro e w5 ⟨rfl,dm⟩;obtain⟨eX,CC,vP,jC⟩:=eN dm (yb.out.below dm) (kZ.out.below dm) (OM.out.below dm);have qH:=aj (aV eJ.out eX.out);clear dm x0 x1;obtain⟨x0,x1⟩:=CC.out.c2;by_cases hle:By*18446744073709551615<=P
   . have Gm:D=18446744073709551615:=by
      have h1:18446744073709551615<=D:=by rw[<-HD.out];exact(Nat.le_div_iff_mul_le JQ.out).2 (by rw[Nat.mul_comm];exact hle)
      have h2:=XP.out;rw[HD.out]at h2;omega
     have zK:=aj Gm;have ny:=Re hle;have Cn:=aj hle;clear Gm hle;obtain⟨c,hc⟩:=aK (dx (By*18446744073709551615) P);rw[hc]at ny;rw[hc];clear hc;have aph:¬0<c:=by omega
     go_wp2_with fail;refine(IX b L at' (n+1) (iA-at') (dg R) P W.heap.size 0 (n+1) (n+1) (By*18446744073709551615) w5 zo zo jC.out zo (λj _=>(JS.out j).symm) (vP.out.lim _ (Nat.le_refl _)) (BA uE.out (by first|exact qI.out|exact Ez.out)) ZS Cn.out xL.out).mono ?_;rintro e w6 ⟨rfl,pk,uA⟩
     have tL:bX L (gA (dg R) at' (n+1) (dg (P-By*18446744073709551615)))=bX L (dg (R-By*18446744073709551615*WW^at')):=kV (λj _=>by
      have h:=KB.out j;rw[HP.out,HD.out,zK.out]at h
      exact h)
     rw[tL]at pk;obtain⟨lN,wu⟩:=aZ pk uA;clear pk uA tL;go_wp2;refine bodyPost_ret (v:=.int .u64 (D:Int)) (by have hh:=zK.out;simp[results,Tryz.results199,go_sem,hh]) rfl ⟨rfl,by rw[zK.out];exact lN.out,Below.thenGrown qH.out wu.out⟩
   . have ny:=Rc (a:=By*18446744073709551615) (b:=P) zo;have hDl:P/By<18446744073709551615:=by
      rcases Nat.lt_or_ge (P/By) 18446744073709551615 with h|h
      . exact h
      . exact absurd (Nat.le_trans (Nat.mul_le_mul_left By h) (Nat.mul_div_le _ _)) hle
     have ED:=aj hDl;have Ez:Hid (D<WW):=by have h1:=qI.out;have h2:=ED.out;rw[HD.out]at h2;exact Nat.lt_trans h2 h1
     clear hDl hle;rw[ny];clear ny;go_wp2_with fail;refine(aec (some ⟨b,0,none⟩) L iA b2 o2 n cap2 By b at' (iA-at') P 18446744073709551615 w5 zo AQ zo (Hy.out.below qH.out) uE.out JQ.out (rT.out.below eX.out) xL.out ED.out qI.out).mono ?_;rintro e w7 ⟨mb,rfl,⟨qM,lmb⟩,qb⟩;have Oa:=qH.out.size;replace vP:=aj qM;replace jC:=aj (jC.out.below qb);replace qH:=aj (aV qH.out qb);rw[HD.out]at vP;rw[HD.out];have NZ:=jC.out.lt;clear qM qb x0 x1;go_wp2_with fail;refine(IX b L at' (n+1) (iA-at') (dg R) P mb 0 (n+1) (n+1) (By*D) w7 zo zo jC.out zo (λj _=>(JS.out j).symm) (vP.out.lim _ (Nat.le_refl _)) (BA uE.out (by first|exact qI.out|exact Ez.out)) ZS (by rw[<-HD.out];exact Nat.mul_div_le _ _) xL.out).mono ?_;rintro e w6 ⟨rfl,pk,uA⟩
     have tL:bX L (gA (dg R) at' (n+1) (dg (P-By*D)))=bX L (dg (R-By*D*WW^at')):=kV (λj _=>by
      have h:=KB.out j;rw[HP.out,HD.out]at h
      exact h)
     rw[tL]at pk;obtain⟨lN,wu⟩:=aZ pk uA;clear pk uA tL;go_wp2;refine bodyPost_ret (results_tmp rfl _ _ _) rfl ⟨rfl,lN.out,Below.thenGrown qH.out wu.out⟩
theorem Rp (X Y j:Nat):X% (Y*WW^(j+1))/WW^j/Y=dg (X/Y) j:=by unfold dg;rw[Nat.div_div_eq_div_mul,Nat.div_div_eq_div_mul,show Y*WW^(j+1)=WW^j*Y*WW by rw[Nat.pow_succ,<-Nat.mul_assoc,Nat.mul_comm Y],Nat.mod_mul_right_div_self,Nat.mul_comm Y]
theorem anw (X Y j:Nat):X% (Y*WW^(j+1))-Y* (X% (Y*WW^(j+1))/WW^j/Y) *WW^j=X% (Y*WW^j):=by
 rw[Rp];have e:Y*WW^(j+1)=Y*WW^j*WW:=by rw[Nat.pow_succ,<-Nat.mul_assoc]
 have e2:dg (X/Y) j=X/(Y*WW^j)%WW:=by unfold dg;rw[Nat.div_div_eq_div_mul]
 rw[e,Nat.mod_mul,e2];have e3:Y* (X/(Y*WW^j)%WW) *WW^j=Y*WW^j* (X/(Y*WW^j)%WW):=by grind
 rw[e3];omega
theorem asp {Y:Nat}(h:0<Y):∃s,s<64/\s=64-bV (dg Y (ln Y-1))/\Y*2^s<WW^ln Y/\9223372036854775808<=dg (Y*2^s) (ln Y-1)/\ln (Y*2^s)=ln Y/\0<bV (dg Y (ln Y-1))/\bV (dg Y (ln Y-1))<=64:=by
 have hl:=Nn h;obtain⟨k,hk⟩:∃k,ln Y=k+1:=⟨ln Y-1,by omega⟩;obtain⟨h1,h2⟩:=aek hk;obtain⟨t1,t2,t3⟩:=Zw Y k h1 h2;rw[hk,Nat.add_sub_cancel];obtain⟨B,hB⟩:=aK (bV (dg Y k));rw[hB]at t1 t2 t3⊢;have h3:=rX Y;rw[t1]at h3;have e1:WW^(k+1)=2^(64*k+64):=by rw[mg];congr 1
 have e2:(2:Nat)^(64*k+64)=2^(64*k+B) *2^(64-B):=by rw[<-Nat.pow_add];congr 1;omega
 have hlt:Y*2^(64-B)<WW^(k+1):=by rw[e1,e2];exact Nat.mul_lt_mul_of_pos_right h3 (Nat.pow_pos zd)
 have hge:2^(64*k+B-1)<=Y:=by
  rcases Nat.lt_or_ge Y (2^(64*k+B-1))with h4|h4
  . have:=ib h4;omega
  . exact h4
 have acy:9223372036854775808*WW^k<=Y*2^(64-B):=by
  have e3:9223372036854775808*WW^k=2^(64*k+B-1) *2^(64-B):=by rw[mg,<-Nat.pow_add,show 64*k+B-1+(64-B)=63+64*k by omega,Nat.pow_add]
  rw[e3];exact Nat.mul_le_mul_right _ hge
 refine⟨64-B,by omega,rfl,hlt,?_,?_,t3,t2⟩
 . unfold dg;have h5:9223372036854775808<=Y*2^(64-B)/WW^k:=(Nat.le_div_iff_mul_le (eK k)).2 acy;have h6:Y*2^(64-B)/WW^k<WW:=by refine Nat.div_lt_of_lt_mul ?_;rw[Nat.pow_succ]at hlt;exact hlt
   rw[Nat.mod_eq_of_lt h6];exact h5
 . refine aej hlt (Nat.le_trans ?_ acy);exact Nat.le_mul_of_pos_left _ zd
theorem amY (b o n cap v:Nat)(w:World)(hm:n<=1099511627776)(hcap:n<=cap)(hc:ey w b o n v)(hv:v<WW^n):
 Calls Tryz.prog 168 #[.slice (some ⟨b,o,none⟩) n cap] w λe w'=>e=.returned (.slice (some ⟨b,o,none⟩) (ln v) cap)/\Bw w w':=by
 refine(mo b o n cap v w hm hcap hc hv).mono ?_;rintro e w' ⟨he,rfl⟩;exact⟨he,Below.refl _ _⟩
theorem anA (b m cap v n:Nat)(w:World)(hm:m<=549755813888)(hcap:m<=cap)(hn:n<64)(hx:ey w b 0 m v)(hv:v<WW^m):
 Calls Tryz.prog 170 #[.slice (some ⟨b,0,none⟩) m cap,ah (n:Int)] w λe w'=>∃a k c,e=.returned (.slice a k c)/\(CE w' a k (v/2^n)/\k<=c/\k<=549755813888/\v/2^n<WW^k)/\Bw w w':=by
 rcases Nat.eq_zero_or_pos m with h|h
 . subst h;have hv0:v=0:=by simpa using hv
   subst hv0;refine(aaf (some ⟨b,0,none⟩) 0 cap n w zo zo zo).mono ?_;rintro e w' ⟨he,rfl⟩;exact⟨none,0,0,he,⟨λh=>absurd h zo,Nat.le_refl _,by omega,by rw[Nat.zero_div];exact eK 0⟩,Below.refl _ _⟩
 . have h64:n/64=0:=by omega
   refine(aae b 0 m cap v n w hm hcap zo hx hv zo).mono ?_;rintro e w' ⟨he,hB,hb,hle⟩;exact⟨_,_,_,he,⟨λ_=>⟨_,_,rfl,hB.lim _ hle⟩,hle,by omega,fe _⟩,hb⟩
theorem asf (l m:List UInt8)(w:World)(hl:l.length<=68719476736)(hm:m.length<=68719476736)(hm0:0<nv m)(hle:nv m<=nv l):
 Calls Tryz.prog 180 #[ai l,ai m] w λe w'=>e=.returned (.tuple #[ai (nt (nv l/nv m)),ai (nt (nv l%nv m)),ar true])/\Bw w w':=by
 obtain⟨X,hX⟩:=aK (nv l);obtain⟨Y,hY⟩:=aK (nv m);have h1:=λW=>nR l W zo;have h2:=λW=>nR m W zo;rw[hX]at h1 hle⊢;rw[hY]at h2 hle hm0⊢;obtain⟨s,hs,hse,Mn,MZ,MJ,GC,hbl⟩:=asp hm0;have hX0:0<X:=by omega
 have hlx:=Nn hX0;have GW:=Nn hm0;obtain⟨lx,AX⟩:=aK (ln X);obtain⟨ly,AY⟩:=aK (ln Y);have sj:=fe X;have wT:=fe Y;rw[AX]at h1 hlx sj;rw[AY]at h2 GW wT Mn MZ MJ hse GC hbl;obtain⟨cx,lC⟩:=aK ((l.length+7)/8);obtain⟨cy,yD⟩:=aK ((m.length+7)/8);rw[lC]at h1;rw[yD]at h2;have MK:lx<=cx:=by rw[<-AX,<-lC,<-hX];exact jP (KI l)
 have ML:ly<=cy:=by rw[<-AY,<-yD,<-hY];exact jP (KI m)
 have apj:cx<=8589934593:=by omega
 have Mu:cy<=8589934593:=by omega
 have ny:¬dx X Y<0:=by unfold dx;rw[if_neg zo];split<;>omega
 have Mx:X*2^s/(Y*2^s)=X/Y:=Nat.mul_div_mul_right _ _ (Nat.pow_pos zd);have hdr:X*2^s% (Y*2^s)=X%Y*2^s:=Nat.mul_mod_mul_right _ _ _;have jo:X*2^s<WW^(lx+1):=by rw[Nat.pow_succ];exact Nat.mul_lt_mul'' sj (by rw[ma];exact Nat.pow_lt_pow_right zd hs)
 have acR:=jP jo;obtain⟨X',Sz⟩:=aK (X*2^s);obtain⟨Y',SF⟩:=aK (Y*2^s);have Na:=λb W h=>Wj b 0 lx cx X s W zo zo h sj;have TY:=λb W h=>Wj b 0 ly cy Y s W zo zo h wT;rw[Sz]at Mx hdr jo acR;rw[SF]at Mx hdr Mn MZ MJ;simp only[Sz,show s/64=0 by omega,Nat.add_zero]at Na;simp only[SF,show s/64=0 by omega,Nat.add_zero,MJ]at TY;obtain⟨lX,MI⟩:=aK (ln X');rw[MI]at acR;simp only[MI]at Na;have SD:X'<WW^lX:=by rw[<-MI];exact fe _
 have SV:=λb W h=>Rh (some ⟨b,0,none⟩) lX (lx+1) X' ((lx:Int)+2) W zo zo zo h SD;rw[show max ((lx:Int)+2).toNat lX=lx+2 by omega]at SV;have GX:∀W,Calls Tryz.prog 191 #[.int .u64 (dg Y (ly-1):Int)] W λe w'=>e=.returned (ah (s:Int))/\W=w':=λW=>by have:=UA (dg Y (ly-1)) W (kq _ _);rw[show(64-(bV (dg Y (ly-1)):Int))=(s:Int)by omega]at this;exact this
 have oQ:ly<=lx:=by
  have h3:¬lx<ly:=λh3=>by have:=Uw (v:=X) (u:=Y) (by rw[AX,AY];exact h3);omega
  omega
 have hmk:=Br ((lx:Int)+2-ly) (lx+2-ly) zo zo;obtain⟨H1,H2,aj2,aj3,Hcp,Px,JV,OB,HYW,Fu,OW,vV⟩:=gy h1 h2 Na TY SV GX sj wT Mn MZ Mx hdr;obtain⟨aw0,Xj,Hm0⟩:=dc SD jo hm0;clear h1 h2 Na TY SV GX sj wT Mn MZ Mx hdr SD jo hX hY hse AX AY lC yD Sz SF MI MJ hle hX0 hm0 GC hbl;go_enter Tryz.func180,Tryz.ntmps180;go_wp2_with fail;refine(H1.out w).mono ?_;rintro e w1 ⟨rfl,cd,hb1,fL⟩;obtain⟨eW,cE⟩:=aZ cd hb1;clear cd hb1;go_wp2_with fail;refine(H2.out w1).mono ?_;rintro e w2 ⟨rfl,ez,hb2,Dy⟩;obtain⟨fC,df⟩:=aZ ez (aV cE.out hb2);replace eW:=aj (eW.out.below hb2);have s1:=eW.out.lt;have s2:=fC.out.lt;clear ez hb2;have apE:((ly:Int)==0)=false:=by simp;omega
 go_wp2_with fail;refine(Bq w.heap.size 0 lx cx X w1.heap.size 0 ly cy Y w2 zo fL (eW.out.lim _ fL) JV.out zo Dy (fC.out.lim _ Dy) OB.out).mono ?_;rintro e w3 ⟨rfl,hb3⟩;replace eW:=aj (eW.out.below hb3);replace fC:=aj (fC.out.below hb3);have eJ:=aj (aV df.out hb3);clear hb3;obtain⟨c,hc⟩:=aK (dx X Y);rw[hc]at ny⊢;clear hc;have hdec:decide (c<0)=false:=by simp;omega
 have i1:=IQ ly cy (ly-1) ((ly:Int)-1) (rfl:(some ⟨w1.heap.size,0,none⟩:Option Addr)=_) zo zo;rw[Nat.mul_one,Nat.zero_add]at i1;have cY:w3.cell? ⟨w1.heap.size,ly-1,none⟩=some (.int .u64 (dg Y (ly-1):Int)):=by rw[fC.out.cell,gV _ _ _ zo]
 go_wp2_with fail;refine(Px.out w3).mono ?_;rintro e w4 ⟨rfl,rfl⟩;clear cY i1;go_wp2_with fail;refine(aj2.out w.heap.size w3 (eW.out.lim _ fL)).mono ?_;rintro e w4 ⟨rfl,qB,qb,qle⟩;have Ov:=aj qB;replace fC:=aj (fC.out.below qb);have mV:=aj (aV eJ.out qb);have s4:=Ov.out.lt;clear qB qb;go_wp2_with fail;refine(Hcp.out w3.heap.size w4 (λ_=>⟨_,_,rfl,Ov.out.lim _ zo⟩)).mono ?_;rintro e w5 ⟨rfl,qB,qb⟩;have gD:=aj qB;replace fC:=aj (fC.out.below qb);have eX:=aj (aV mV.out qb);have s5:=gD.out.lt;clear qB qb;go_wp2_with fail;refine(aj3.out w1.heap.size w5 (fC.out.lim _ Dy)).mono ?_;rintro e w6 ⟨rfl,qB,qb,aAJ⟩;have lN:=aj qB;replace gD:=aj (gD.out.below qb);have vT:=aj (aV eX.out qb);have s6:=lN.out.lt;have s65:=gD.out.lt;have q4:=mV.out.size;clear qB qb eW fC Ov cE df eJ mV eX;obtain⟨M,hM⟩:=aK (lx+2-ly);rw[hM]at hmk;obtain⟨lB,hlB⟩:=aK w4.heap.size;obtain⟨yB,hyB⟩:=aK w5.heap.size;rw[hlB]at gD s5 s65 q4⊢;rw[hyB]at lN s6 s5⊢;obtain⟨W7,Mj⟩:=aK (w6.alloc (.cells #[.slice (some ⟨lB,0,none⟩) (lx+2) (lx+2),.slice (some ⟨yB,0,none⟩) ly (ly+1)] 219));have nu:Bw w6 W7:=by rw[<-Mj];exact zl
 have OV:Hid (aC W7 w6.heap.size 219 [.slice (some ⟨lB,0,none⟩) (lx+2) (lx+2),.slice (some ⟨yB,0,none⟩) ly (ly+1)]):=by rw[<-Mj];exact aC.new _ _ _
 have s7:W7.heap.size=w6.heap.size+1:=by rw[<-Mj];simp
 obtain⟨W8,wR⟩:=aK (W7.alloc (.cells (bX M λ_=>0).toArray 152));have fQ:Bw W7 W8:=by rw[<-wR];exact zl
 have Ho:Hid (aC W8 W7.heap.size 152 (bX M λ_=>0)):=by rw[<-wR];exact aC.new _ _ _
 have Hd:=aj (OV.out.below fQ);replace gD:=aj ((gD.out.below nu).below fQ);replace lN:=aj ((lN.out.below nu).below fQ);have ja:=aj (aV (aV vT.out nu) fQ);have Oa:=vT.out.size;have S7:=aj s7;clear nu fQ vT hlB hyB s7;obtain⟨d0,d1⟩:=OV.out.c2;go_wp2_with fail;have Ya:Hid (ey W8 yB 0 ly Y'):=lN.out.lim _ zo;have Dj:M+ly=lx+2:=by omega
 have SA:X'<Y'*WW^M:=by have h1:WW^(ly-1)<=Y':=af7 (by have:=Fu.out;omega);have h2:WW^(ly-1) *WW^M<=Y'*WW^M:=Nat.mul_le_mul_right _ h1;rw[<-Nat.pow_add,show ly-1+M=lx+1 by omega]at h2;exact Nat.lt_of_lt_of_le Xj.out h2
 have hYp:0<Y':=by
  rcases Nat.eq_zero_or_pos Y' with h|h
  . have:=Fu.out;rw[h]at this;unfold dg at this;simp at this
  . exact h
 have hQM:X'/Y'<WW^M:=Nat.div_lt_of_lt_mul SA;obtain⟨HXM,HYp,HQM⟩:=dc SA hYp hQM;clear SA hYp hQM d0 d1 Mj wR hmk hM;obtain⟨oB,TD⟩:=aK W7.heap.size;rw[TD]at Ho⊢;have ac8:oB=w6.heap.size+1:=by rw[<-TD];exact S7.out
 obtain⟨dB,hdB⟩:=aK w6.heap.size;rw[hdB]at Hd ac8 s6 s65 Oa⊢;have ayw:dB<oB:=by omega
 clear TD hdB S7 OV ac8;go_loopw[12] (λx wr=>∃(k:Nat) (i:Int),k<=M/\i=(k:Int)-1/\x=ah i/\aC wr dB 219 [.slice (some ⟨lB,0,none⟩) (lx+2) (lx+2),.slice (some ⟨yB,0,none⟩) ly (ly+1)]/\aC wr lB 152 (bX (lx+2) (dg (X'% (Y'*WW^k))))/\aC wr oB 152 (bX M λj=>if k<=j then dg (X'/Y') j else 0)/\ey wr yB 0 ly Y'/\Bw w wr) (λx _=>(intOf x+1).toNat);case atStart=>
  refine⟨M,_,Nat.le_refl _,rfl,rfl,Hd.out,?_,?_,Ya.out,ja.out⟩
  . rw[Nat.mod_eq_of_lt HXM.out];exact gD.out
  . have e:bX M (λj=>if M<=j then dg (X'/Y') j else 0)=bX M λ_=>0:=kV (λj hj=>by rw[if_neg zo]);rw[e];exact Ho.out
 case round=>
  clear Hd gD Ho Ya ja lN;obtain⟨k,i,hk,hi,rfl,pd,pl,po,py,pb⟩:=hrel;obtain⟨Hd,Hl,Ho,Hy,Hb⟩:=fU pd pl po py pb;clear pd pl po py pb;obtain⟨d0,d1⟩:=Hd.out.c2;by_cases mB:0<k
  . obtain⟨j,rfl⟩:∃j,k=j+1:=⟨k-1,by omega⟩;obtain rfl:i=(j:Int):=by omega
    clear hi;go_wp2_with fail;refine(ans lB (lx+2) (lx+2) (X'% (Y'*WW^(j+1))) yB 0 ly (ly+1) Y' j wr zo (Nat.le_refl _) GW zo Hl.out Hy.out HYW.out Fu.out (Nat.mod_lt _ (Nat.mul_pos HYp.out (eK _))) zo zo).mono ?_;rintro e w9 ⟨rfl,qB,qg⟩;rw[Rp]at qB⊢;have hrest:=anw X' Y' j;rw[Rp]at hrest;rw[hrest]at qB;have kn:∀b,b≠lB->some b≠some lB:=λb h e=>h (Option.some.inj e);obtain⟨Pq,XB,PQ,Hy9,JZ⟩:=fU qB (Hd.out.grown qg (kn _ zo)) (Ho.out.grown qg (kn _ zo)) (Hy.out.grown qg (kn _ zo)) (Hb.out.grown qg Hb.out.size (λb e=>by have:=Option.some.inj e;omega));obtain⟨q,hq⟩:=aK (dg (X'/Y') j);rw[hq];have Hq:=aj hq;have i2:=IQ M M j (j:Int) (rfl:(some ⟨oB,0,none⟩:Option Addr)=_) zo rfl;rw[Nat.mul_one,Nat.zero_add]at i2;have co:w9.cell? ⟨oB,j,none⟩=some (.int .u64 ((if j+1<=j then dg (X'/Y') j else 0:Nat):Int)):=by rw[PQ.out.cell,gV _ _ _ zo]
    have fo:w9.frozen? ⟨oB,j,none⟩=false:=PQ.out.free j;clear qB qg hrest hq d0 d1;obtain⟨d0,d1⟩:=XB.out.c2;go_wp2;go_roundw;case rel=>
     refine⟨j,(j:Int)-1,by omega,rfl,by go_num,XB.out.so oB j zo _,Pq.out.so oB j zo _,?_,?_,JZ.out.sc oB j zo _⟩
     . have h:=PQ.out.set j (.int .u64 (q:Int));rw[Eu]at h
       have e:bX M (λi=>if i=j then q else if j+1<=i then dg (X'/Y') i else 0)=bX M (λi=>if j<=i then dg (X'/Y') i else 0):=kV (λi hi=>by
        by_cases h1:i=j
        . subst h1;rw[if_pos rfl,if_pos (Nat.le_refl _)];exact Hq.out.symm
        . rw[if_neg h1];by_cases h2:j+1<=i
          . rw[if_pos h2,if_pos zo]
          . rw[if_neg h2,if_neg zo])
       rw[e]at h;exact h
     . exact λt ht=>ie zp (Hy9.out t ht)
    case measure=>simp[intOf]
  . obtain rfl:k=0:=by omega
    obtain rfl:i= -1:=by omega
    have HL:Hid (ey wr oB 0 M (X'/Y')):=λt ht=>by rw[Ho.out.cell,Nat.zero_add,gV _ _ _ ht,if_pos (Nat.zero_le _)]
    have hR:X'% (Y'*WW^0)=X'%Y':=by rw[Nat.pow_zero,Nat.mul_one]
    rw[hR]at Hl;have vR:Hid (X'%Y'<WW^(lx+2)):=Nat.lt_of_le_of_lt (Nat.mod_le _ _) (Nat.lt_of_lt_of_le Xj.out (Nat.pow_le_pow_right kj zo));have acQ:=jP vR.out;have HR:=aj (show X'%Y'/2^s=X%Y by rw[vV.out];exact Nat.mul_div_cancel _ (Nat.pow_pos zd));clear hi hR;go_wp2_with fail;have jC:=Hb;clear Hb;have Hb:Hid (Bw wr wr):=Below.refl _ _;obtain⟨d0,d1⟩:=Hd.out.c2;refine cg (λw'=>aH w' dB 0 (.slice (some ⟨lB,0,none⟩) (lx+2) (lx+2))) (λi=>Nat.blt i 100000) [(0,true),(2,true),(3,true),(5,true),(1,false),(4,false),(6,false),(7,false),(8,true),(9,true),(10,true)] zk zk rfl zk zc d0 ?_;iterate 4 (refine pT rfl rfl ?_)
    refine aW rfl rfl (λK hK=>?_);go_simp;with_reducible refine(zF oB 0 M M (X'/Y') _ zo (Nat.le_refl _) (HL.out.below (by first|exact Hb.out|exact Below.drew Hb.out)) HQM.out).mono ?_
    rintro e y1 ⟨rfl,hq⟩;have ag:Bw wr y1:=by first|exact hq|exact bo hq
    clear d0 d1;obtain⟨Hd,d0,d1⟩:=bi Hd ag;replace Hb:=aF Hb ag;clear ag;refine hK _ _ (λ_=>d0) ?_;clear hK K
    refine aW rfl rfl (λK hK=>?_);go_simp;with_reducible refine(amY lB 0 (lx+2) (lx+2) (X'%Y') _ zo (Nat.le_refl _) ((Hl.out.lim _ (Nat.le_refl _)).below (by first|exact Hb.out|exact Below.drew Hb.out)) vR.out).mono ?_
    rintro e y2 ⟨rfl,hq⟩;have ag:Bw y1 y2:=by first|exact hq|exact bo hq
    clear d0 d1;obtain⟨Hd,d0,d1⟩:=bi Hd ag;replace Hb:=aF Hb ag;clear ag;refine hK _ _ (λ_=>d0) ?_;clear hK K
    refine aW rfl rfl (λK hK=>?_);go_simp;with_reducible refine(anA lB (ln (X'%Y')) (lx+2) (X'%Y') s _ zo acQ hs ((Hl.out.lim _ acQ).below (by first|exact Hb.out|exact Below.drew Hb.out)) (fe _)).mono ?_
    rintro e y3 ⟨a,k,c2,rfl,⟨qL,qc,qk,qv⟩,hq⟩;have ag:Bw y2 y3:=by first|exact hq|exact bo hq
    clear d0 d1;obtain⟨Hd,d0,d1⟩:=bi Hd ag;replace Hb:=aF Hb ag;clear ag;refine hK _ _ (λ_=>d0) ?_;clear hK K
    refine aW rfl rfl (λK hK=>?_);go_simp;with_reducible refine(af1 a k c2 (X'%Y'/2^s) _ zo qc qL qv).mono ?_
    rintro e y4 ⟨rfl,hq⟩;have ag:Bw y3 y4:=by first|exact hq|exact bo hq
    clear d0 d1;obtain⟨Hd,d0,d1⟩:=bi Hd ag;replace Hb:=aF Hb ag;clear ag;refine hK _ _ (λ_=>d0) ?_;clear hK K
    iterate 3 (refine pT rfl rfl ?_)
    simp only[bD];go_wp2;refine bodyPost_ret (v:=.tuple #[ai (nt (X/Y)),ai (nt (X%Y)),ar true]) (by have h1:=OW.out;have h2:=HR.out;simp[results,Tryz.results180,go_sem,h1,h2]) rfl ⟨rfl,aV jC.out Hb.out⟩
inductive PT where
 |lin (p:List (Nat×Bool))
 |rd (x:Nat) (t:PT)
 |br (i j:Nat) (t1 t2:PT)
 |tr (i j k:Nat) (t1 t2 t3:PT)
def PT.size :PT->Nat
 | .lin p=>p.length
 | .rd _ t=>t.size+1
 | .br _ _ t1 _=>t1.size+1
 | .tr _ _ _ t1 _ _=>t1.size+1
section
variable {P:Program} {md:Region.Mode} {ops:Array Oper} {Q:Exit->Act->World->Prop} {S:World->Prop} {J:Nat->Bool}
def uy (md:Region.Mode)(ops:Array Oper)(J:Nat->Bool):PT->Array Bool->Bool
 | .lin p,listed=>xz md ops J p listed
 | .rd x t,listed=>(Region.ready md ops listed).contains x&&Region.free md ops listed x&&waits md ops J x&&uy md ops J t (listed.setIfInBounds x true)
 | .br i j t1 t2,listed=>Region.ready md ops listed==[i,j]&&t1.size==t2.size&&J i&&J j&&uy md ops J t1 (listed.setIfInBounds i true)&&uy md ops J t2 (listed.setIfInBounds j true)
 | .tr i j k t1 t2 t3,listed=>Region.ready md ops listed==[i,j,k]&&t1.size==t2.size&&t1.size==t3.size&&uy md ops J t1 (listed.setIfInBounds i true)&&uy md ops J t2 (listed.setIfInBounds j true)&&uy md ops J t3 (listed.setIfInBounds k true)
def ot (P:Program)(ops:Array Oper)(Q:Exit->Act->World->Prop)(S:World->Prop)(J:Nat->Bool):PT->Act->World->Prop
 | .lin p,a,w=>bD P ops Q S J p a w
 | .rd x t,a,w=>∃o v,ops[x]?=some o/\YieldsIf P ops S o v a/\ot P ops Q S J t (a.put o.dst v) w
 | .br i j t1 t2,a,w=>wpOp P ops Q i (λa1 w1=>S w1/\ot P ops Q S J t1 a1 w1) a w/\wpOp P ops Q j (λa1 w1=>S w1/\ot P ops Q S J t2 a1 w1) a w
 | .tr i j k t1 t2 t3,a,w=>wpOp P ops Q i (λa1 w1=>S w1/\ot P ops Q S J t1 a1 w1) a w/\wpOp P ops Q j (λa1 w1=>S w1/\ot P ops Q S J t2 a1 w1) a w/\wpOp P ops Q k (λa1 w1=>S w1/\ot P ops Q S J t3 a1 w1) a w
theorem aws (hs:Region.noSelect ops=true)(hQ:∀(o:Oper) c a v w,Q (.panic c) (a.put o.dst v) w->Q (.panic c) a w)(t:PT):
 ∀(listed:Array Bool) (a:Act) (w:World),Closed md ops listed->uy md ops J t listed=true->S w->ot P ops Q S J t a w->sN P md ops Q S J t.size listed a w:=by
 induction t with
 |lin p=>intro listed a w hc hok hS h;exact Om hs hQ p _ _ _ hc hok (λ_=>hS) h
 | br i j t1 t2 ih1 ih2=>
   intro listed a w hc hok _ h;simp only[uy,Bool.and_eq_true,beq_iff_eq]at hok;obtain⟨⟨⟨⟨⟨h1,hsz⟩,_⟩,_⟩,h2⟩,h3⟩:=hok;have mi:i∈Region.ready md ops listed:=by rw[h1];simp
   have mj:j∈Region.ready md ops listed:=by rw[h1];simp
   refine⟨λh0=>(by rw[h1]at h0;cases h0),λk hk=>?_⟩;rw[h1]at hk;simp only[List.mem_cons,List.not_mem_nil,or_false]at hk;rcases hk with rfl|rfl
   . exact wpOp_mono (λa1 w1 q=>⟨λ_=>q.1,ih1 _ _ _ (hc.list mi) h2 q.1 q.2⟩) h.1
   . refine wpOp_mono (λa1 w1 q=>⟨λ_=>q.1,?_⟩) h.2;have:=ih2 _ _ _ (hc.list mj) h3 q.1 q.2;rw[<-hsz]at this;exact this
 | tr i j k t1 t2 t3 ih1 ih2 ih3=>
   intro listed a w hc hok _ h;simp only[uy,Bool.and_eq_true,beq_iff_eq]at hok;obtain⟨⟨⟨⟨⟨h1,hs2⟩,hs3⟩,h2⟩,h3⟩,h4⟩:=hok;have mi:i∈Region.ready md ops listed:=by rw[h1];simp
   have mj:j∈Region.ready md ops listed:=by rw[h1];simp
   have mk:k∈Region.ready md ops listed:=by rw[h1];simp
   refine⟨λh0=>(by rw[h1]at h0;cases h0),λl hl=>?_⟩;rw[h1]at hl;simp only[List.mem_cons,List.not_mem_nil,or_false]at hl;rcases hl with rfl|rfl|rfl
   . exact wpOp_mono (λa1 w1 q=>⟨λ_=>q.1,ih1 _ _ _ (hc.list mi) h2 q.1 q.2⟩) h.1
   . refine wpOp_mono (λa1 w1 q=>⟨λ_=>q.1,?_⟩) h.2.1;have:=ih2 _ _ _ (hc.list mj) h3 q.1 q.2;rw[<-hs2]at this;exact this
   . refine wpOp_mono (λa1 w1 q=>⟨λ_=>q.1,?_⟩) h.2.2;have:=ih3 _ _ _ (hc.list mk) h4 q.1 q.2;rw[<-hs3]at this;exact this
 |rd x t ih=>intro listed a w hc hok hS h;simp only[uy,Bool.and_eq_true]at hok;obtain⟨⟨⟨h1,h2⟩,h3⟩,h4⟩:=hok;obtain⟨o,v,ho,hy,h⟩:=h;exact JK ho (Region.noSelect_spec hs) (λc a w=>hQ o c a v w) h3 t.size listed a w hc h2 (by simpa using h1) hy hS (ih _ _ _ (hc.list (by simpa using h1)) h4 hS h)
theorem Oq {id:Nat}{a:Act}{w:World}(S:World->Prop)(J:Nat->Bool)(t:PT)(hm:P.follows .mixedOrders=true)(hs:Region.noSelect ops=true)
 (hl:t.size=ops.size) (hok:uy .any ops J t (Array.replicate ops.size false)=true)
 (hQ:∀(o:Oper) c a v w,Q (.panic c) (a.put o.dst v) w->Q (.panic c) a w) (hS:S w.drew) (h:ot P ops Q S J t a w.drew):(Code.region id ops true).wp P Q a w:=by
 refine wp_region_any hm (Oo ops.size _ _ _ ?_ (S:=S) (J:=J));have:=aws (md:=.any) (S:=S) (J:=J) hs hQ t (Array.replicate ops.size false) a w.drew (Closed.empty _) hok hS h;rw[hl]at this;exact this
theorem NK {x:Nat}{t:PT}{o:Oper}{v:Value}{a:Act}{w:World}(ho:ops.toList[x]?=some o)(hw:Region.wanted o (yielded ops a.tmps)=true)
 (hy:∀w',S w'->(execOp a.eval o).run P w'=.ok (.value v) w') (h:ot P ops Q S J t (a.put o.dst v) w):ot P ops Q S J (.rd x t) a w:=
 ⟨o,v,by rw[<-Array.getElem?_toList];exact ho,.inl ⟨hw,hy⟩,h⟩
theorem Ji {i j:Nat}{t1 t2:PT}{oi oj:Oper}{a:Act}{w:World}(hJi:J i=true)(hJj:J j=true)(hoi:ops.toList[i]?=some oi)(nz:ops.toList[j]?=some oj)(Ud:Region.wanted oi (yielded ops a.tmps)=true)(II:Region.wanted oj (yielded ops a.tmps)=true)
 (h1:∀K:Act->World->Prop,(∀a' w',(J i=true->S w')->ot P ops Q S J t1 a' w'->K a' w')->oi.wp P a w K Q) (h2:∀K:Act->World->Prop,(∀a' w',(J j=true->S w')->ot P ops Q S J t2 a' w'->K a' w')->oj.wp P a w K Q):ot P ops Q S J (.br i j t1 t2) a w:=by
 rw[Array.getElem?_toList]at hoi nz;refine⟨?_,?_⟩
 . unfold wpOp;simp only[hoi,Ud,if_true];exact .inl (h1 _ (λa' w' q1 q2=>⟨q1 hJi,q2⟩))
 . unfold wpOp;simp only[nz,II,if_true];exact .inl (h2 _ (λa' w' q1 q2=>⟨q1 hJj,q2⟩))
theorem Jj {t:PT}{a:Act}{W:World}(R:World->Prop)(hR:R W)(h:∀W',R W'->ot P ops Q S J t a W'):ot P ops Q S J t a W:=h W hR
theorem xA {p:List (Nat×Bool)}{a:Act}{w:World}(h:bD P ops Q S J p a w):ot P ops Q S J (.lin p) a w:=h
end
def kg (cs:List (Addr×Value))(w:World):Prop:=∀p∈cs,w.cell? p.1=some p.2
theorem kg.below {cs:List (Addr×Value)}{w w':World}(h:kg cs w)(hb:Bw w w'):kg cs w':=λp hp=>cell_later hb (h p hp)
theorem kg.hd {p:Addr×Value}{cs:List (Addr×Value)}{w:World}(h:kg (p::cs) w):w.cell? p.1=some p.2:=h p zm
theorem kg.tl {p:Addr×Value}{cs:List (Addr×Value)}{w:World}(h:kg (p::cs) w):kg cs w:=λq hq=>h q (by simp[hq])
theorem kg.alloc {cs:List (Addr×Value)}{w:World}(h:kg cs w)(o:Obj):kg cs (w.alloc o):=h.below zl
theorem kg.drew {cs:List (Addr×Value)}{w:World}(h:kg cs w):kg cs w.drew:=h
section
variable {P:Program} {md:Region.Mode} {ops:Array Oper} {Q:Exit->Act->World->Prop} {S:World->Prop} {J:Nat->Bool}
def FR (md:Region.Mode)(ops:Array Oper)(J:Nat->Bool)(es:List Nat)(D:Nat->List Nat)(last:List (Nat×Bool)):Nat->Array Bool->Bool
 |0,listed=>es.all (λk=>listed.getD k false)&&xz md ops J last listed
 |n+1,listed=>listed.size==ops.size&& !(Region.ready md ops listed).isEmpty&&(Region.ready md ops listed).all λk=>es.contains k&& !(listed.getD k false)&&decide (k<listed.size)&&(D k).all (λd=>es.contains d&&listed.getD d false)&&FR md ops J es D last n (listed.setIfInBounds k true)
def uY (es:List Nat)(listed:Array Bool)(i:Nat):Bool:=es.contains i&&listed.getD i false
theorem anz {es:List Nat}{listed:Array Bool}{k:Nat}(hk:es.contains k=true)(hl:k<listed.size):uY es (listed.setIfInBounds k true)=λi=>i==k||uY es listed i:=by
 funext i
 unfold uY;by_cases h:i=k
 . subst h;simp only[beq_self_eq_true,Bool.true_or];rw[hk];simp[hl]
 . have h2:(i==k)=false:=by simpa using h
   rw[h2,Bool.false_or,getD_set_ne false (λe=>h e.symm)]
theorem awq (hs:Region.noSelect ops=true)(hQ:∀(o:Oper) c a v w,Q (.panic c) (a.put o.dst v) w->Q (.panic c) a w)(es:List Nat)(D:Nat->List Nat)(last:List (Nat×Bool))(I:(Nat->Bool)->Act->World->Prop)
 (h2:∀dn a w,I dn a w->S w) (h3:∀k∈es,∀dn a w,dn k=false->(∀d∈D k,dn d=true)->I dn a w->wpOp P ops Q k (I λi=>i==k||dn i) a w) (h4:∀dn a w,(∀k∈es,dn k=true)->I dn a w->bD P ops Q S J last a w) (n:Nat):
 ∀(listed:Array Bool) (a:Act) (w:World),Closed md ops listed->FR md ops J es D last n listed=true->I (uY es listed) a w->sN P md ops Q S J (last.length+n) listed a w:=by
 induction n with
 |zero=>intro listed a w hc hok h;simp only[FR,Bool.and_eq_true,List.all_eq_true]at hok;exact Om hs hQ last _ _ _ hc hok.2 (λ_=>h2 _ _ _ h) (h4 _ _ _ (λk hk=>by unfold uY;rw[hok.1 k hk];simpa using hk) h)
 | succ n ih=>
   intro listed a w hc hok h;simp only[FR,Bool.and_eq_true,List.all_eq_true]at hok;obtain⟨⟨_,h5⟩,h6⟩:=hok;refine⟨λh0=>(by rw[h0]at h5;simp at h5),λk hk=>?_⟩;obtain⟨⟨⟨⟨q1,q2⟩,q3⟩,q4⟩,q5⟩:=h6 k hk;have q3':k<listed.size:=of_decide_eq_true q3;have hf:uY es listed k=false:=by unfold uY;rw[q1];simpa using q2
   refine wpOp_mono (λa1 w1 q=>⟨λ_=>h2 _ _ _ q,ih _ _ _ (hc.list hk) q5 ?_⟩) (h3 k (by simpa using q1) _ a w hf (λd hd=>by unfold uY;rw[Bool.and_eq_true];exact q4 d hd) h);rw[anz q1 q3'];exact q
def Jg (md:Region.Mode)(ops:Array Oper)(J:Nat->Bool)(es:List Nat)(D:Nat->List Nat)(last:List (Nat×Bool)):List Nat->Array Bool->Bool
 |[],listed=>es.all (λk=>!(listed.getD k false))&&FR md ops J es D last es.length listed
 |x::r,listed=>(Region.ready md ops listed).contains x&&Region.free md ops listed x&&waits md ops J x&&Jg md ops J es D last r (listed.setIfInBounds x true)
def awp (P:Program)(ops:Array Oper)(Q:Exit->Act->World->Prop)(S:World->Prop)(J:Nat->Bool)(es:List Nat)(D:Nat->List Nat)(last:List (Nat×Bool))(a:Act)(w:World):Prop:=
 ∃I:(Nat->Bool)->Act->World->Prop,I (λ_=>false) a w/\(∀dn a w,I dn a w->S w)/\(∀k∈es,∀dn a w,dn k=false->(∀d∈D k,dn d=true)->I dn a w->wpOp P ops Q k (I λi=>i==k||dn i) a w)/\∀dn a w,(∀k∈es,dn k=true)->I dn a w->bD P ops Q S J last a w
def Ew (P:Program)(ops:Array Oper)(Q:Exit->Act->World->Prop)(S:World->Prop)(J:Nat->Bool)(es:List Nat)(D:Nat->List Nat)(last:List (Nat×Bool)):List Nat->Act->World->Prop
 |[],a,w=>awp P ops Q S J es D last a w
 |x::r,a,w=>∃o v,ops[x]?=some o/\YieldsIf P ops S o v a/\Ew P ops Q S J es D last r (a.put o.dst v) w
theorem awr (hs:Region.noSelect ops=true)(hQ:∀(o:Oper) c a v w,Q (.panic c) (a.put o.dst v) w->Q (.panic c) a w)(es:List Nat)(D:Nat->List Nat)(last:List (Nat×Bool))(r:List Nat):
 ∀(listed:Array Bool) (a:Act) (w:World),Closed md ops listed->Jg md ops J es D last r listed=true->S w->Ew P ops Q S J es D last r a w->sN P md ops Q S J (last.length+es.length+r.length) listed a w:=by
 induction r with
 | nil=>
   intro listed a w hc hok hS h;simp only[Jg,Bool.and_eq_true,List.all_eq_true]at hok;obtain⟨I,h1,h2,h3,h4⟩:=h;have e:uY es listed=λ_=>false:=by
    funext i
    unfold uY;by_cases hi:es.contains i=true
    . have:=hok.1 i (by simpa using hi);rw[hi];simpa using this
    . simp only[Bool.not_eq_true]at hi;rw[hi];rfl
   exact awq hs hQ es D last I h2 h3 h4 es.length listed a w hc hok.2 (by rw[e];exact h1)
 |cons x r ih=>intro listed a w hc hok hS h;simp only[Jg,Bool.and_eq_true]at hok;obtain⟨⟨⟨h1,h2⟩,h3⟩,h4⟩:=hok;obtain⟨o,v,ho,hy,h⟩:=h;exact JK ho (Region.noSelect_spec hs) (λc a w=>hQ o c a v w) h3 (last.length+es.length+r.length) listed a w hc h2 (by simpa using h1) hy hS (ih _ _ _ (hc.list (by simpa using h1)) h4 hS h)
theorem aww {id:Nat}{a:Act}{w:World}(S:World->Prop)(J:Nat->Bool)(es:List Nat)(D:Nat->List Nat)(last:List (Nat×Bool))(r:List Nat)(hm:P.follows .mixedOrders=true)(hs:Region.noSelect ops=true)
 (hl:last.length+es.length+r.length=ops.size) (hok:Jg .any ops J es D last r (Array.replicate ops.size false)=true)
 (hQ:∀(o:Oper) c a v w,Q (.panic c) (a.put o.dst v) w->Q (.panic c) a w) (hS:S w.drew) (h:Ew P ops Q S J es D last r a w.drew):(Code.region id ops true).wp P Q a w:=by
 refine wp_region_any hm (Oo ops.size _ _ _ ?_ (S:=S) (J:=J));have:=awr (md:=.any) (S:=S) (J:=J) hs hQ es D last r (Array.replicate ops.size false) a w.drew (Closed.empty _) hok hS h;rw[hl]at this;exact this
theorem ata {x:Nat}{es:List Nat}{D:Nat->List Nat}{last:List (Nat×Bool)}{r:List Nat}{o:Oper}{v:Value}{a:Act}{w:World}(ho:ops.toList[x]?=some o)(hw:Region.wanted o (yielded ops a.tmps)=true)
 (hy:∀w',S w'->(execOp a.eval o).run P w'=.ok (.value v) w') (h:Ew P ops Q S J es D last r (a.put o.dst v) w):Ew P ops Q S J es D last (x::r) a w:=
 ⟨o,v,by rw[<-Array.getElem?_toList];exact ho,.inl ⟨hw,hy⟩,h⟩
theorem as9 {es:List Nat}{D:Nat->List Nat}{last:List (Nat×Bool)}{a:Act}{w:World}(I:Act->(Nat->Bool)->Act->World->Prop)(h1:I a (λ_=>false) a w)(h2:∀dn a' w',I a dn a' w'->S w')
 (h3:∀k∈es,∀dn a' w',dn k=false->(∀d∈D k,dn d=true)->I a dn a' w'->wpOp P ops Q k (I a λi=>i==k||dn i) a' w') (h4:∀dn a' w',(∀k∈es,dn k=true)->I a dn a' w'->bD P ops Q S J last a' w'):Ew P ops Q S J es D last [] a w:=
 ⟨I a,h1,h2,h3,h4⟩
theorem Ed {k:Nat}{o:Oper}{a:Act}{w:World}{R:Act->World->Prop}(ho:ops.toList[k]?=some o)(hw:Region.wanted o (yielded ops a.tmps)=true)(h:∀K:Act->World->Prop,(∀a' w',R a' w'->K a' w')->o.wp P a w K Q):wpOp P ops Q k R a w:=by rw[Array.getElem?_toList]at ho;unfold wpOp;simp only[ho,hw,if_true];exact .inl (h _ (λa' w' h=>h))
theorem Ej (a:Act)(k:Nat):a.put (some k) (a.tmps.getD k undef)=a:=by
 unfold Act.put;have:a.tmps.setIfInBounds k (a.tmps.getD k undef)=a.tmps:=by
  apply Array.ext
  . simp
  . intro i h1 h2;rw[Array.getElem_setIfInBounds];split
    . rename_i e;subst e;simp[h2]
    . rfl
 cases a
 simp only at this⊢;rw[this]
end
theorem bQ {P:Program}{ops:Array Oper}{Q:Exit->Act->World->Prop}{S:World->Prop}{J:Nat->Bool}{i:Nat}{rest:List (Nat×Bool)}{o:Oper}{a:Act}{w:World}(ho:ops.toList[i]?=some o)(hw:Region.wanted o (yielded ops a.tmps)=false)
 (h:bD P ops Q S J rest (a.put o.dst undef) w):bD P ops Q S J ((i,true)::rest) a w:=
 ⟨o,undef,by rw[<-Array.getElem?_toList];exact ho,.inr ⟨hw,rfl⟩,h⟩
theorem Vl {P:Program}{ops:Array Oper}{Q:Exit->Act->World->Prop}{S:World->Prop}{J:Nat->Bool}{i:Nat}{rest:List (Nat×Bool)}{o:Oper}{a:Act}{w:World}(ho:ops.toList[i]?=some o)(hw:Region.wanted o (yielded ops a.tmps)=false)
 (hS:J i=true->S w) (h:bD P ops Q S J rest (a.put o.dst undef) w):bD P ops Q S J ((i,false)::rest) a w:=by
 show wpOp P ops Q i _ a w
 rw[Array.getElem?_toList]at ho;unfold wpOp;simp only[ho,hw];exact⟨hS,h⟩
def eu (A w:World):Prop:=Bw A w
theorem eu.below {A w w':World}(h:eu A w)(hb:Bw w w'):eu A w':=aV h hb
theorem eu.alloc {A w:World}(h:eu A w)(o:Obj):eu A (w.alloc o):=h.below zl
theorem eu.drew {A w:World}(h:eu A w):eu A w.drew:=Below.drew h
section
variable {P:Program} {md:Region.Mode} {ops:Array Oper} {Q:Exit->Act->World->Prop} {S:World->Prop} {J:Nat->Bool}
theorem awv {j:Nat}{oi oj:Oper}{v:Value}(hj:ops[j]?=some oj)(hap:oi.apart ops oj=true)(hsj:∀cs b,oj.op≠ .select cs b)
 (hQ:∀c a w,Q (.panic c) a w->Q (.panic c) (a.put oi.dst v) w) {K:Act->World->Prop} {a:Act} {w:World} (h:wpOp P ops Q j K a w):
 wpOp P ops Q j (λa' w'=>∃a0,a'=a0.put oi.dst v/\K a0 w') (a.put oi.dst v) w:=by
 obtain⟨h1,h2,h3⟩:=Oper.apart_spec hap;unfold wpOp at*;simp only[hj]at*;rw[wanted_put oj a oi.dst v h1];split
 . rename_i hw
   simp only[hw,if_true]at h;rcases h with h|⟨hasks,apD⟩;case inr=>exact .inr ⟨by unfold Oper.asks at*;rw[execOp_put oj hsj a oi.dst v h1];exact hasks,apD⟩
   refine .inl ?_;unfold Oper.wp at*;rw[execOp_put oj hsj a oi.dst v h1];generalize (execOp a.eval oj).run P w=r at*;cases r with
   | ok n w'=>
     cases n<;>simp only[Oper.upon]at h⊢
     case value u=>exact⟨a.put oj.dst u,Act.put_comm a v u h2,h⟩
     case skip=>exact⟨a.put oj.dst undef,Act.put_comm a v undef h2,h⟩
     case defer d=>exact⟨_,by rw[Act.put_defers,Act.put_comm _ v undef h2],h⟩
     case enter f args=>
      refine Calls.mono h λe w'' he=>?_;cases e with
      |returned u=>exact⟨a.put oj.dst u,Act.put_comm a v u h2,he⟩
      |panicked c=>exact hQ _ _ _ he
      |outgrown=>exact he
     case row row args=>exact Rows.mono h λu w'' he=>⟨a.put oj.dst u,Act.put_comm a v u h2,he⟩
   | halt x w'=>
     cases x<;>simp only[Oper.upon]at h⊢
     case panic u=>exact hQ _ _ _ h
 . rename_i hw
   simp only[hw]at h;exact⟨a.put oj.dst undef,Act.put_comm a v undef h2,h⟩
def Jh (md:Region.Mode)(ops:Array Oper)(J:Nat->Bool)(j:Nat)(oj:Oper)(last:List (Nat×Bool)):List (Nat×Bool)->Array Bool->Bool
 |[],listed=>Region.ready md ops listed==[j]&&xz md ops J last (listed.setIfInBounds j true)
 | (i,b)::r,listed=>(match ops[i]? with|some o=>oj.apart ops o|none=>false)&&(if b then(Region.ready md ops listed).contains i&&Region.free md ops listed i&&(Region.ready md ops (listed.setIfInBounds j true)).contains i&&Region.free md ops (listed.setIfInBounds j true) i&&waits md ops J i
  else(Region.ready md ops listed).all (λk=>k==i||k==j)&&(Region.ready md ops listed).contains i&&(Region.ready md ops listed).contains j&&Region.ready md ops (listed.setIfInBounds j true)==[i])&&Jh md ops J j oj last r (listed.setIfInBounds i true)
def vO (P:Program)(ops:Array Oper)(Q:Exit->Act->World->Prop)(S:World->Prop)(L:Act->World->Prop):List (Nat×Bool)->Act->World->Prop
 |[],a,w=>L a w
 | (i,true)::r,a,w=>∃o v,ops[i]?=some o/\YieldsIf P ops S o v a/\vO P ops Q S L r (a.put o.dst v) w
 | (i,false)::r,a,w=>wpOp P ops Q i (λa1 w1=>Bw w w1/\∀w2,Bw w1 w2->S w2/\vO P ops Q S L r a1 w2) a w
theorem awA {o:Oper}{v v':Value}{a:Act}{w:World}(h:YieldsIf P ops S o v a)(h':YieldsIf P ops S o v' a)(hS:S w):v=v':=by
 rcases h with⟨h1,h2⟩ |⟨h1,h2⟩<;>rcases h' with⟨h3,h4⟩ |⟨h3,h4⟩
 . have:=(h2 w hS).symm.trans (h4 w hS);simpa using this
 . rw[h1]at h3;cases h3
 . rw[h1]at h3;cases h3
 . rw[h2,h4]
theorem awt (hs:Region.noSelect ops=true)(hQ:∀(o:Oper) c a v w,Q (.panic c) (a.put o.dst v) w->Q (.panic c) a w)(Sp:∀(o:Oper) c a v w,Q (.panic c) a w->Q (.panic c) (a.put o.dst v) w)
 {j:Nat} {oj:Oper} (nz:ops[j]?=some oj) (hJ:J j=true) {ty:TypeId} {cs:List Value} (hal:∀(K:Act->World->Prop) a w,K (a.put oj.dst (.pointer (some ⟨w.heap.size,0,none⟩))) (w.alloc (.cells cs.toArray ty))->wpOp P ops Q j K a w)
 (last:List (Nat×Bool)) (n0:Nat) (p:List (Nat×Bool)):∀(listed:Array Bool) (a:Act),Closed md ops listed->Jh md ops J j oj last p listed=true->
 (∀b w,aC w b ty cs->n0<=b->S w->Closed md ops (listed.setIfInBounds j true)->vO P ops Q S (λa w=>∀b,n0<=b->aC w b ty cs->bD P ops Q S J last (a.put oj.dst (.pointer (some ⟨b,0,none⟩))) w) p a w->sN P md ops Q S J (last.length+p.length) (listed.setIfInBounds j true) (a.put oj.dst (.pointer (some ⟨b,0,none⟩))) w)/\
 (∀w,n0<=w.heap.size->j∈Region.ready md ops listed->(∀w2,Bw w w2->S w2/\vO P ops Q S (λa w=>∀b,n0<=b->aC w b ty cs->bD P ops Q S J last (a.put oj.dst (.pointer (some ⟨b,0,none⟩))) w) p a w2)->sN P md ops Q S J (last.length+p.length+1) listed a w):=by
 obtain⟨L,hL⟩:∃L:Act->World->Prop,(λa w=>∀b,n0<=b->aC w b ty cs->bD P ops Q S J last (a.put oj.dst (.pointer (some ⟨b,0,none⟩))) w)=L:=⟨_,rfl⟩;have hLa:∀a w,L a w->∀b,n0<=b->aC w b ty cs->bD P ops Q S J last (a.put oj.dst (.pointer (some ⟨b,0,none⟩))) w:=λa w h=>by rw[<-hL]at h;exact h
 rw[hL];induction p with
 | nil=>
   intro listed a hc hok;simp only[Jh,Bool.and_eq_true,beq_iff_eq]at hok;have hA:∀b w,aC w b ty cs->n0<=b->S w->Closed md ops (listed.setIfInBounds j true)->L a w->sN P md ops Q S J last.length (listed.setIfInBounds j true) (a.put oj.dst (.pointer (some ⟨b,0,none⟩))) w:=
    λb w hb h0 hS hc2 h=>Om hs hQ last _ _ _ hc2 hok.2 (λ_=>hS) (hLa _ _ h b h0 hb)
   refine⟨hA,λw h0 hj h=>⟨λh9=>(by rw[hok.1]at h9;cases h9),λk hk=>?_⟩⟩;rw[hok.1]at hk;obtain rfl:k=j:=by simpa using hk
   have h2:=h (w.alloc (.cells cs.toArray ty)) zl;exact hal _ _ _ ⟨λ_=>h2.1,hA _ _ (aC.new _ _ _) h0 h2.1 (hc.list hj) h2.2⟩
 | cons x r ih=>
   obtain⟨i,bb⟩:=x;intro listed a hc hok;unfold Jh at hok;rw[Bool.and_eq_true,Bool.and_eq_true]at hok;obtain⟨⟨hap,h1⟩,h2⟩:=hok;cases ho:ops[i]? with
   |none=>rw[ho]at hap;cases hap
   |some o=>
   rw[ho]at hap;dsimp only at hap;obtain⟨a1,a2,a3⟩:=Oper.apart_spec hap;have hso:=λcs b=>Region.noSelect_spec hs i o cs b ho;cases bb with
   | true=>
     simp only[if_true,Bool.and_eq_true]at h1;obtain⟨⟨⟨⟨b1,b2⟩,b3⟩,b4⟩,b5⟩:=h1;have m1:i∈Region.ready md ops listed:=by simpa using b1
     have m2:i∈Region.ready md ops (listed.setIfInBounds j true):=by simpa using b3
     have hne:i≠j:=λe=>by
      subst e;have:=(mem_ready.1 m2).1;rcases Nat.lt_or_ge i listed.size with h'|h'
      . simp[h']at this
      . have:=(mem_ready.1 m1).1;simp[Array.getElem?_eq_none h']at this
     have hcm:=Array.setIfInBounds_comm true true (xs:=listed) hne;refine⟨λb w hb h0 hS hc2 h=>?_,λw h0 hj h=>?_⟩
     . obtain⟨o',v,ho',hy,h⟩:=h;rw[ho]at ho';obtain rfl:=Option.some.inj ho';have hy2:YieldsIf P ops S o v (a.put oj.dst (.pointer (some ⟨b,0,none⟩))):=hy.of_same (execOp_put o hso a oj.dst _ a1) (wanted_put o a oj.dst _ a1);refine JK ho (Region.noSelect_spec hs) (λc a w=>hQ o c a v w) b5 (last.length+r.length) _ _ w hc2 b4 m2 hy2 hS ?_;rw[Act.put_comm a _ v a2,<-hcm];refine(ih _ _ (hc.list m1) h2).1 b w hb h0 hS ?_ h;rw[hcm];exact hc2.list m2
     . have hw:=h w (Below.refl _ _);obtain⟨hS,o',v,ho',hy,hw⟩:=hw;rw[ho]at ho';obtain rfl:=Option.some.inj ho';refine JK ho (Region.noSelect_spec hs) (λc a w=>hQ o c a v w) b5 (last.length+r.length+1) _ _ w hc b2 m1 hy hS ?_;refine(ih _ _ (hc.list m1) h2).2 w h0 (ready_mono hj (Ne.symm hne)) (λw2 hb2=>?_);obtain⟨hS2,o',v',ho',hy',h'⟩:=h w2 hb2;rw[ho]at ho';obtain rfl:=Option.some.inj ho';rw[awA hy hy' hS2];exact⟨hS2,h'⟩
   | false=>
     simp only[Bool.false_eq_true,if_false,Bool.and_eq_true,beq_iff_eq,List.all_eq_true]at h1;obtain⟨⟨⟨c1,c2⟩,c3⟩,c4⟩:=h1;have m1:i∈Region.ready md ops listed:=by simpa using c2
     have m3:j∈Region.ready md ops listed:=by simpa using c3
     have m2:i∈Region.ready md ops (listed.setIfInBounds j true):=by rw[c4];simp
     have hne:i≠j:=λe=>by
      subst e;have:=(mem_ready.1 m2).1;rcases Nat.lt_or_ge i listed.size with h'|h'
      . simp[h']at this
      . have:=(mem_ready.1 m1).1;simp[Array.getElem?_eq_none h']at this
     have hcm:=Array.setIfInBounds_comm true true (xs:=listed) hne;have hA:∀b w,aC w b ty cs->n0<=b->S w->Closed md ops (listed.setIfInBounds j true)->vO P ops Q S L ((i,false)::r) a w->sN P md ops Q S J (last.length+r.length+1) (listed.setIfInBounds j true) (a.put oj.dst (.pointer (some ⟨b,0,none⟩))) w:=λb w hb h0 hS hc2 h=>by
      refine⟨λh9=>(by rw[c4]at h9;cases h9),λk hk=>?_⟩;rw[c4]at hk;obtain rfl:k=i:=by simpa using hk
      refine wpOp_mono (λa' w' q=>?_) (awv (v:=.pointer (some ⟨b,0,none⟩)) ho hap hso (λc a w=>Sp oj c a _ w) h);obtain⟨a0,rfl,q1,q2⟩:=q;obtain⟨q3,q4⟩:=q2 w' (Below.refl _ _);refine⟨λ_=>q3,?_⟩;rw[<-hcm];refine(ih _ _ (hc.list m1) h2).1 b w' (hb.below q1) h0 q3 ?_ q4;rw[hcm];exact hc2.list m2
     refine⟨hA,λw h0 hj h=>⟨λh9=>(by rw[h9]at m1;cases m1),λk hk=>?_⟩⟩;have hk2:=c1 k hk;simp only[Bool.or_eq_true,beq_iff_eq]at hk2;rcases hk2 with rfl|rfl
     . refine wpOp_mono (λa1 w1 q=>⟨λ_=>(q.2 w1 (Below.refl _ _)).1,?_⟩) (h w (Below.refl _ _)).2;exact(ih _ _ (hc.list m1) h2).2 w1 (Nat.le_trans h0 q.1.size) (ready_mono m3 (Ne.symm hne)) q.2
     . have h3:=h (w.alloc (.cells cs.toArray ty)) zl;exact hal _ _ _ ⟨λ_=>h3.1,hA _ _ (aC.new _ _ _) h0 h3.1 (hc.list hj) h3.2⟩
theorem BR {id:Nat}{a:Act}{w:World}(S:World->Prop)(J:Nat->Bool)(j:Nat){oj:Oper}(ty:TypeId)(cs:List Value)(p last:List (Nat×Bool))(hm:P.follows .mixedOrders=true)(hs:Region.noSelect ops=true)
 (nz:ops[j]?=some oj) (hJ:J j=true) (hl:last.length+p.length+1=ops.size) (hok:Jh .any ops J j oj last p (Array.replicate ops.size false)=true) (hr:(Region.ready .any ops (Array.replicate ops.size false)).contains j=true)
 (hQ:∀(o:Oper) c a v w,Q (.panic c) (a.put o.dst v) w->Q (.panic c) a w) (Sp:∀(o:Oper) c a v w,Q (.panic c) a w->Q (.panic c) (a.put o.dst v) w)
 (hal:∀(K:Act->World->Prop) a w,K (a.put oj.dst (.pointer (some ⟨w.heap.size,0,none⟩))) (w.alloc (.cells cs.toArray ty))->wpOp P ops Q j K a w)
 (h:∀w2,Bw w w2->S w2/\vO P ops Q S (λa w'=>∀b,w.heap.size<=b->aC w' b ty cs->bD P ops Q S J last (a.put oj.dst (.pointer (some ⟨b,0,none⟩))) w') p a w2):(Code.region id ops true).wp P Q a w:=by
 refine wp_region_any hm (Oo ops.size _ _ _ ?_ (S:=S) (J:=J));have:=(awt (md:=.any) (S:=S) (J:=J) hs hQ Sp nz hJ hal last w.heap.size p (Array.replicate ops.size false) a (Closed.empty _) hok).2 w.drew (Nat.le_refl _) (by simpa using hr) (λw2 hb=>h w2 ((Below.refl _ _).drew.trans hb));rw[hl]at this;exact this
theorem BH {k:Nat}{o:Oper}{a:Act}{w:World}{R:Act->World->Prop}(ho:ops.toList[k]?=some o)(hw:Region.wanted o (yielded ops a.tmps)=true)(h:∀K:Act->World->Prop,(∀a' w',R a' w'->K a' w')->o.wp P a w K Q):wpOp P ops Q k R a w:=by rw[Array.getElem?_toList]at ho;unfold wpOp;simp only[ho,hw,if_true];exact .inl (h _ (λa' w' h=>h))
theorem qD {i:Nat}{L:Act->World->Prop}{r:List (Nat×Bool)}{o:Oper}{v:Value}{a:Act}{w:World}(ho:ops.toList[i]?=some o)(hw:Region.wanted o (yielded ops a.tmps)=true)
 (hy:∀w',S w'->(execOp a.eval o).run P w'=.ok (.value v) w') (h:vO P ops Q S L r (a.put o.dst v) w):vO P ops Q S L ((i,true)::r) a w:=
 ⟨o,v,by rw[<-Array.getElem?_toList];exact ho,.inl ⟨hw,hy⟩,h⟩
theorem nV {i:Nat}{L:Act->World->Prop}{r:List (Nat×Bool)}{o:Oper}{a:Act}{w:World}(ho:ops.toList[i]?=some o)(hw:Region.wanted o (yielded ops a.tmps)=true)
 (h:∀K:Act->World->Prop,(∀a' w',Bw w w'->(∀w2,Bw w w2->Bw w' w2->S w2/\vO P ops Q S L r a' w2)->K a' w')->o.wp P a w K Q):vO P ops Q S L ((i,false)::r) a w:=by
 show wpOp P ops Q i _ a w
 rw[Array.getElem?_toList]at ho;unfold wpOp;simp only[ho,hw,if_true];exact .inl (h _ (λa' w' h1 h2=>⟨h1,λw2 h3=>h2 w2 (aV h1 h3) h3⟩))
end
end Go.Proofs.YtnjfebkelecgaaaGreatDoor
