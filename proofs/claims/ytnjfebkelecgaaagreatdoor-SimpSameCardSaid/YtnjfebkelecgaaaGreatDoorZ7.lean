/- A statement whose order is open,walked in one order: what only reads is taken first;S is asked behind each operation but the last ones (J),for which everything else waits. -/
import Derived.Test.YtnjfebkelecgaaaGreatDoorZ6
import Derived.OrdersHeld
import Derived.Test.YtnjfebkelecgaaaGreatDoorZ5
set_option linter.all false
set_option maxRecDepth 100000
set_option maxHeartbeats 16000000
namespace Go.Proofs.YtnjfebkelecgaaaGreatDoor
open Go.RowKit
def U1 {α:Type}(l:List α)(i:Nat)(a:α):l.toArray.setIfInBounds i a=(l.set i a).toArray:=by simp
def U2 {α:Type}(x:α)(l:List α)(a:α):(x::l).set 0 a=a::l:=rfl
def U3 {α:Type}(x:α)(l:List α)(i:Nat)(a:α):(x::l).set (i+1) a=x::l.set i a:=rfl
section
variable {P:Program} {md:Region.Mode} {ops:Array Oper} {Q:Exit->Act->World->Prop} {S:World->Prop} {J:Nat->Bool}
def tJ (P:Program)(md:Region.Mode)(ops:Array Oper)(Q:Exit->Act->World->Prop)(S:World->Prop)(J:Nat->Bool):Nat->Array Bool->Act->World->Prop
 |0,listed,a,w=>Region.ready md ops listed=[]/\Q .normal a w
 | fuel+1,listed,a,w=>
   (Region.ready md ops listed=[]->Q .normal a w)/\
   ∀i∈Region.ready md ops listed,wpOp P ops Q i (λa' w'=>(J i=true->S w')/\tJ P md ops Q S J fuel (listed.setIfInBounds i true) a' w') a w
def Qr (fuel:Nat):∀(listed:Array Bool) (a:Act) (w:World),tJ P md ops Q S J fuel listed a w->wpAny P md ops Q fuel listed a w:=by
 induction fuel with
 |zero=>intro _ _ _ h;exact h
 |succ n ih=>intro _ _ _ h;exact⟨h.1,λi hi=>wpOp_mono (λa' w' h'=>ih _ a' w' h'.2) (h.2 i hi)⟩
def reach (md:Region.Mode)(ops:Array Oper)(i:Nat):Nat->Nat->Bool
 |0,_=>false
 | n+1,j=>match ops[j]? with
   |some oj=>oj.after.any λe=>Region.binds md e&&(e.on==i||reach md ops i n e.on)
   |none=>false
def waits (md:Region.Mode)(ops:Array Oper)(J:Nat->Bool)(i:Nat):Bool:=
 (List.range ops.size).all λj=>j==i||J j||reach md ops i ops.size j
def Closed (md:Region.Mode)(ops:Array Oper)(listed:Array Bool):Prop:=
 ∀(k:Nat) (ok:Oper),listed.getD k false=true->ops[k]?=some ok->∀e∈ok.after,Region.binds md e=true->listed.getD e.on false=true
def Closed.empty (n:Nat):Closed md ops (Array.replicate n false):=by
 intro k ok h;exfalso
 rw[Array.getD_eq_getD_getElem?,Array.getElem?_replicate]at h;split at h<;>simp at h
def Closed.list {listed:Array Bool}(h:Closed md ops listed){j:Nat}(hj:j∈Region.ready md ops listed):Closed md ops (listed.setIfInBounds j true):=by
 obtain⟨VA,oj,oH,hall⟩:=mem_ready.1 hj;have up:∀n,listed.getD n false=true->(listed.setIfInBounds j true).getD n false=true:=by
  intro n hn;by_cases hjn:j=n
  . subst hjn;rcases Nat.lt_or_ge j listed.size with h'|h'
    . simp[h']
    . simp[Array.getD_eq_getD_getElem?,Array.getElem?_eq_none h']at hn
  . rw[getD_set_ne false hjn];exact hn
 intro k ok hk hok e he hb;by_cases hjk:j=k
 . subst hjk;rw[oH]at hok;cases hok
   exact up _ (hall e he hb)
 . rw[getD_set_ne false hjk]at hk;exact up _ (h k ok hk hok e he hb)
def axY {listed:Array Bool}(hc:Closed md ops listed){i:Nat}(n:Nat):∀(j:Nat) (oj:Oper),ops[j]?=some oj->(∀e∈oj.after,Region.binds md e=true->listed.getD e.on false=true)->reach md ops i n j=true->listed.getD i false=true:=by
 induction n with
 |zero=>intro j oj _ _ h;cases h
 | succ n ih=>
   intro j oj oH hall h;unfold reach at h;rw[oH]at h;simp only at h;rw[Array.any_eq_true]at h;obtain⟨k,hk,h2⟩:=h;simp only[Bool.and_eq_true,Bool.or_eq_true,beq_iff_eq]at h2;have h3:=hall _ (Array.getElem_mem hk) h2.1;rcases h2.2 with h4|h4
   . rw[<-h4];exact h3
   . cases ho:ops[oj.after[k].on]? with
     | none=>
       cases n with
       |zero=>cases h4
       |succ m=>unfold reach at h4;rw[ho]at h4;cases h4
     |some ok=>exact ih _ ok ho (hc _ ok h3 ho) h4
def aAq {listed:Array Bool}(hc:Closed md ops listed){i:Nat}(h:waits md ops J i=true)(EE:listed.getD i true=false){j:Nat}(hj:j∈Region.ready md ops listed)(hne:j≠i):J j=true:=by
 obtain⟨VA,oj,oH,hall⟩:=mem_ready.1 hj;unfold waits at h;rw[List.all_eq_true]at h;have h1:=h j (List.mem_range.2 (Array.getElem?_eq_some_iff.1 oH).1);simp only[Bool.or_eq_true,beq_iff_eq]at h1;rcases h1 with(h1|h1) |h1
 . exact absurd h1 hne
 . exact h1
 . have h2:=axY hc _ j oj oH hall h1;rcases Nat.lt_or_ge i listed.size with h'|h'
   . simp[h']at EE h2;rw[EE]at h2;cases h2
   . simp[Array.getD_eq_getD_getElem?,Array.getElem?_eq_none h']at h2
def Lh {i:Nat}{oi:Oper}{v:Value}(hi:ops[i]?=some oi)(JF:∀(j:Nat) (o:Oper) cs b,ops[j]?=some o->o.op≠ .select cs b)
 (hQ:∀c a w,Q (.panic c) (a.put oi.dst v) w->Q (.panic c) a w) (hJ:waits md ops J i=true) (fuel:Nat):
 ∀(listed:Array Bool) (a:Act) (w:World),Closed md ops listed->Region.free md ops listed i=true->i∈Region.ready md ops listed->YieldsIf P ops S oi v a->S w->
  tJ P md ops Q S J fuel (listed.setIfInBounds i true) (a.put oi.dst v) w->tJ P md ops Q S J (fuel+1) listed a w:=by
 induction fuel with
 | zero=>
   intro listed a w _ _ hr hy hS H;refine⟨λh=>(by rw[h]at hr;cases hr),λj hj=>?_⟩;by_cases hji:j=i
   . subst hji;exact hy.wpOp hi hS ⟨λ_=>hS,H⟩
   . have:=ready_mono hj hji;rw[H.1]at this;cases this
 | succ n ih=>
   intro listed a w hc hf hr hy hS H;refine⟨λh=>(by rw[h]at hr;cases hr),λj hj=>?_⟩;by_cases hji:j=i
   . subst hji;exact hy.wpOp hi hS ⟨λ_=>hS,H⟩
   . have h1:=H.2 j (ready_mono hj hji);obtain⟨VA,oj,oH,hall⟩:=mem_ready.1 hj;have EE:=(mem_ready.1 hr).1;have ati:∀e∈oj.after,Region.binds md e=true->e.on≠i:=by
      intro e he hb heq;have h2:=hall e he hb;rw[heq]at h2;rcases Nat.lt_or_ge i listed.size with h'|h'
      . simp[h']at EE h2;rw[EE]at h2;cases h2
      . simp[Array.getElem?_eq_none h']at h2
     have hjJ:J j=true:=aAq hc hJ EE hj hji;have h2:=wpOp_putIf oH (Region.free_spec hi hf j oj oH hji VA ati) (λcs b=>JF i oi cs b hi) (λcs b=>JF j oj cs b oH) hQ hy h1;have hf':Region.free md ops (listed.setIfInBounds j true) i=true:=by
      unfold Region.free at hf⊢;rw[hi]at hf⊢;simp only[List.all_eq_true]at hf⊢;intro k hk;have:=hf k hk;simp only[Bool.or_eq_true]at this⊢;rcases this with(h3|h3) |h3
      . exact .inl (.inl h3)
      . refine .inl (.inr ?_);by_cases hjk:j=k
        . subst hjk;rcases Nat.lt_or_ge j listed.size with h'|h'
          . simp[h']
          . simp
        . rw[getD_set_ne true hjk];exact h3
      . exact .inr h3
     refine wpOp_mono (λa' w' h3=>⟨h3.2.1,ih (listed.setIfInBounds j true) a' w' (hc.list hj) hf' (ready_mono hr (Ne.symm hji)) h3.1 (h3.2.1 hjJ) ?_⟩) h2;rw[Array.setIfInBounds_comm _ _ hji];exact h3.2.2
def ym (md:Region.Mode)(ops:Array Oper)(J:Nat->Bool):List (Nat×Bool)->Array Bool->Bool
 |[],listed=>(Region.ready md ops listed).isEmpty
 | (i,true)::rest,listed=>(Region.ready md ops listed).contains i&&Region.free md ops listed i&&waits md ops J i&&ym md ops J rest (listed.setIfInBounds i true)
 | (i,false)::rest,listed=>Region.ready md ops listed==[i]&&(J i|| !rest.any (·.2))&&ym md ops J rest (listed.setIfInBounds i true)
def bu (P:Program)(ops:Array Oper)(Q:Exit->Act->World->Prop)(S:World->Prop)(J:Nat->Bool):List (Nat×Bool)->Act->World->Prop
 |[],a,w=>Q .normal a w
 | (i,true)::rest,a,w=>∃o v,ops[i]?=some o/\YieldsIf P ops S o v a/\bu P ops Q S J rest (a.put o.dst v) w
 | (i,false)::rest,a,w=>wpOp P ops Q i (λa' w'=>(J i=true->S w')/\bu P ops Q S J rest a' w') a w
def Qq (hs:Region.noSelect ops=true)(hQ:∀(o:Oper) c a v w,Q (.panic c) (a.put o.dst v) w->Q (.panic c) a w)(plan:List (Nat×Bool)):
 ∀(listed:Array Bool) (a:Act) (w:World),Closed md ops listed->ym md ops J plan listed=true->(plan.any (·.2)=true->S w)->bu P ops Q S J plan a w->tJ P md ops Q S J plan.length listed a w:=by
 induction plan with
 |nil=>intro listed a w _ hok _ h;exact⟨List.isEmpty_iff.1 hok,h⟩
 | cons x rest ih=>
   obtain⟨i,b⟩:=x;intro listed a w hc hok hS h;cases b with
   |true=>simp only[ym,Bool.and_eq_true]at hok;obtain⟨⟨⟨h1,h2⟩,h3⟩,h4⟩:=hok;obtain⟨o,v,ho,hy,h⟩:=h;have hSw:S w:=hS zm;exact Lh ho (Region.noSelect_spec hs) (λc a w=>hQ o c a v w) h3 rest.length listed a w hc h2 (by simpa using h1) hy hSw (ih _ _ _ (hc.list (by simpa using h1)) h4 (λ_=>hSw) h)
   | false=>
     simp only[ym,Bool.and_eq_true,beq_iff_eq]at hok;obtain⟨⟨h1,h2⟩,h3⟩:=hok;refine⟨λh0=>(by rw[h1]at h0;cases h0),λj hj=>?_⟩;rw[h1]at hj;obtain rfl:j=i:=by simpa using hj
     refine wpOp_mono (λa' w' h4=>⟨h4.1,ih _ _ _ (hc.list (by rw[h1];exact List.mem_singleton.2 rfl)) h3 (λBQ=>?_) h4.2⟩) h;rw[Bool.or_eq_true]at h2;rcases h2 with h2|h2
     . exact h4.1 h2
     . rw[BQ]at h2;cases h2
def bV {id:Nat}{a:Act}{w:World}(S:World->Prop)(J:Nat->Bool)(plan:List (Nat×Bool))(hm:P.follows .mixedOrders=true)(hs:Region.noSelect ops=true)
 (hl:plan.length=ops.size) (hok:ym .any ops J plan (Array.replicate ops.size false)=true)
 (hQ:∀(o:Oper) c a v w,Q (.panic c) (a.put o.dst v) w->Q (.panic c) a w) (hS:S w.drew) (h:bu P ops Q S J plan a w.drew):(Code.region id ops true).wp P Q a w:=by
 refine wp_region_any hm (Qr ops.size _ _ _ ?_ (S:=S) (J:=J));have:=Qq (md:=.any) (S:=S) (J:=J) hs hQ plan (Array.replicate ops.size false) a w.drew (Closed.empty _) hok (λ_=>hS) h;rw[hl]at this;exact this
def PN {i:Nat}{rest:List (Nat×Bool)}{o:Oper}{v:Value}{a:Act}{w:World}(ho:ops.toList[i]?=some o)(hw:Region.wanted o (yielded ops a.tmps)=true)
 (hy:∀w',S w'->(execOp a.eval o).run P w'=.ok (.value v) w') (h:bu P ops Q S J rest (a.put o.dst v) w):bu P ops Q S J ((i,true)::rest) a w:=
 ⟨o,v,by rw[<-Array.getElem?_toList];exact ho,.inl ⟨hw,hy⟩,h⟩
def pT {i:Nat} {rest:List (Nat×Bool)} {o:Oper} {v:Value} {a:Act} {w:World} (ho:ops.toList[i]?=some o) (hw:Region.wanted o (yielded ops a.tmps)=true)
  (h:bu P ops Q S J rest (a.put o.dst v) w) (hy:∀w',S w'->(execOp a.eval o).run P w'=.ok (.value v) w':=by(intro w' hw';go_simp;try with_reducible rfl)):bu P ops Q S J ((i,true)::rest) a w:=PN ho hw hy h
def UU :(∀(a:Act) (d:Nat) (v:Value),a.put (some d) v=⟨a.tmps.setIfInBounds d v,a.defers⟩)/\(∀(a:Act) (v:Value),a.put none v=a)/\(∀(α:Type) (l:List α) (i:Nat) (a:α),l.toArray.setIfInBounds i a=(l.set i a).toArray)/\(∀(α:Type) (x:α) (l:List α) (a:α),(x::l).set 0 a=a::l)/\(∀(α:Type) (x:α) (l:List α) (i:Nat) (a:α),(x::l).set (i+1) a=x::l.set i a):=⟨λ_ _ _=>rfl,λ_ _=>rfl,λ_ l i a=>U1 l i a,λ_ _ _ _=>rfl,λ_ _ _ _ _=>rfl⟩
def aR {i:Nat}{rest:List (Nat×Bool)}{o:Oper}{a:Act}{w:World}(ho:ops.toList[i]?=some o)(hw:Region.wanted o (yielded ops a.tmps)=true)
 (h:∀K:Act->World->Prop,(∀a' w',(J i=true->S w')->bu P ops Q S J rest a' w'->K a' w')->o.wp P a w K Q):bu P ops Q S J ((i,false)::rest) a w:=by
 show wpOp P ops Q i _ a w
 rw[Array.getElem?_toList]at ho;unfold wpOp;simp only[ho,hw,if_true];exact .inl (h _ (λa' w' h1 h2=>⟨h1,h2⟩))
def bZ {plan:List (Nat×Bool)}{a:Act}{W:World}(R:World->Prop)(hR:R W)(h:∀W',R W'->bu P ops Q S J plan a W'):bu P ops Q S J plan a W:=h W hR
end
def aU {w:World}{p a:Addr}{u v:Value}(hne:a.block≠p.block\/a.off≠p.off)(h:w.cell? a=some v):(w.setCell p u).cell? a=some v:=by rw[World.cell?_setCell_other w p a u (λe=>by subst e;rcases hne with h|h<;>exact h rfl)];exact h
section
variable {P:Program} {md:Region.Mode} {ops:Array Oper} {Q:Exit->Act->World->Prop} {S:World->Prop} {J:Nat->Bool}
end
def TC {a b:Nat}(h:b<a):dU a b=1:=by unfold dU;rw[if_neg zo,if_pos h]
def TD {a b:Nat}(h:a<=b):dU a b<=0:=by unfold dU;split;decide;rw[if_neg zo];decide
def an4 (n:Nat):WW^(n+1)=WW^n*WW:=Nat.pow_succ _ _
def CH {By q n:Nat}(hB:By<WW^n)(hq:q<WW):By*q<WW^(n+1):=by
 rw[an4];rcases Nat.eq_zero_or_pos q with h|h
 . subst h;rw[Nat.mul_zero];exact Nat.mul_pos (eY n) kG
 . exact Nat.mul_lt_mul'' hB hq
def agZ (a:Option Addr)(L iT b2 o2 n cap2 By pb po XG P q:Nat)(w:World)(hn:n<=1099511627774)(BV:n<=cap2)(hpc:n+1<=XG)(hy:eN w b2 o2 n By)(hB:By<WW^n)(hBp:0<By)
 (hp:eN w pb po (n+1) P) (hP:P<WW^(n+1)) (hq:P/By<q) (hqW:q<WW):
 Cl 208 #[.agg #[.slice a L iT,.slice (some ⟨b2,o2,none⟩) n cap2],.slice (some ⟨pb,po,none⟩) (n+1) XG,.int .u64 (q:Int)] w λe w'=>∃mb,
  e=.returned (.tuple #[.int .u64 ((P/By:Nat):Int),.slice (some ⟨mb,0,none⟩) (n+1) (n+1)])/\(au w' mb 152 (bU (n+1) (dg (By* (P/By))))/\w.heap.size<=mb)/\Bw w w':=by
 obtain⟨Hy,HB,Zl,Hp,HP⟩:=fU hy hB hBp hp hP;obtain⟨D,hD⟩:=aK (P/By);have HD:=ar hD;rw[hD]at hq⊢;rw[kF]at hqW;have lpb:pb<w.heap.size:=World.block_lt_of_cell? w _ (hp 0 zo);have oJ:0<n->b2<w.heap.size:=λh=>World.block_lt_of_cell? w _ (hy 0 h);have hn0:0<n:=by
  rcases Nat.eq_zero_or_pos n with h|h
  . subst h;simp at hB;omega
  . exact h
 obtain⟨Lpb,Lb2⟩:=aZ lpb (oJ hn0);clear hy hB hBp hp hP hD lpb oJ;have hmk:=CC ((n:Int)+1) (n+1) zo zo;obtain⟨W,dK,Hb,Hx⟩:=jD w 219 [.slice a L iT,.slice (some ⟨b2,o2,none⟩) n cap2];obtain⟨x0,x1⟩:=Hx.out.c2;go_enter Tryz.func208,Tryz.ntmps208;go_wp2_with fail;go_loopw[2,8] (λqv _ wr=>∃k:Nat,D<k/\k<=q/\qv=.int .u64 (k:Int)/\au wr w.heap.size 219 [.slice a L iT,.slice (some ⟨b2,o2,none⟩) n cap2]/\Bw w wr) (λqv _ _=>(intOf qv).toNat);case atStart=>exact⟨q,hq,Nat.le_refl _,rfl,Hx.out,Hb.out⟩
 case round=>
  clear x0 x1 Hx Hb;obtain⟨k,hk1,hk2,rfl,px,pb'⟩:=hrel;obtain⟨Hx,Hb⟩:=aZ px pb';clear px pb';obtain⟨m,rfl⟩:∃m,k=m+1:=⟨k-1,by omega⟩;have hm:IntKind.u64.wrap (((m+1:Nat):Int)-1)=(m:Int):=by rw[IntKind.wrap_u64];omega
  obtain⟨x0,x1⟩:=Hx.out.c2;have hmW:m<WW:=by rw[kF];omega
  have HmW:=ar hmW;clear hmW;have lx:=Hx.out.lt;have sz:=Hb.out.size;obtain⟨W2,hW2⟩:=aK (wr.alloc (.cells (bU (n+1) λ_=>0).toArray 152));have hb2:Bw wr W2:=by rw[<-hW2];exact zl
  have fN:Hid (au W2 wr.heap.size 152 (bU (n+1) λ_=>0)):=by rw[<-hW2];exact au.new _ _ _
  replace Hx:=ar (Hx.out.below hb2);have eJ:=ar (aO Hb.out hb2);have sW2:W2.heap.size=wr.heap.size+1:=by rw[<-hW2];simp
  have aBo:=ar sW2;clear sW2 hb2;obtain⟨y0,y1⟩:=Hx.out.c2;go_wp2_with fail;refine(Pj wr.heap.size (n+1) 0 (n+1) (n+1) (λ_=>0) 0 b2 o2 n cap2 By m W2 zo zo fN.out zo (λj _=>by unfold dg;rw[Nat.zero_div];rfl) (Hy.out.below eJ.out) HB.out (by have:=Lb2.out;omega) HmW.out).mono ?_;rintro e w3 ⟨rfl,qB,qg⟩
  have eB:bU (n+1) (ic (λ_=>0) 0 (n+1) (dg (0+By*m)))=bU (n+1) (dg (By*m)):=lU (λj hj=>by
   have:=Km (λ_=>0) 0 (n+1) (dg (0+By*m)) j hj
   simpa only[Nat.zero_add]using this)
  rw[eB]at qB;obtain⟨lW,Hg3⟩:=aZ qB qg;have ux:=CH HB.out HmW.out;have Aa:=jY ux;obtain⟨FO,yT⟩:=aZ ux (Hx.out.grown qg (λh=>by have:=Option.some.inj h;omega));have sD:Hid (eN w3 pb po (n+1) P):=(Hp.out.below eJ.out).grown qg (λh=>by have:=Option.some.inj h;have:=Lpb.out;omega);have eW:=ar (eJ.out.grown qg (by have:=eJ.out.size;omega) (λj e=>by have:=Option.some.inj e;omega));clear qB qg eB ux x0 x1 y0 y1;obtain⟨x0,x1⟩:=yT.out.c2;go_wp2_with fail;refine(mY wr.heap.size 0 (n+1) (n+1) (By*m) w3 zo (Nat.le_refl _) (lW.out.lim _ (Nat.le_refl _)) FO.out).mono ?_;rintro e w4 ⟨rfl,rfl⟩;go_wp2_with fail;refine(CB wr.heap.size 0 (ln (By*m)) (n+1) (By*m) pb po (n+1) XG P w3 zo Aa (lW.out.lim _ Aa) (fC _) zo hpc sD.out HP.out).mono ?_;rintro e w5 ⟨rfl,dL⟩;obtain⟨eX,DI,jI⟩:=cX dL (yT.out.below dL) (lW.out.below dL);clear dL x0 x1;obtain⟨x0,x1⟩:=DI.out.c2;have pL:=Nat.div_add_mod P By;have sY:=Nat.mod_lt P Zl.out;rw[HD.out]at pL;by_cases hle:By*m<=P
  . have VH:D=m:=by
     have h1:m<=D:=by rw[<-HD.out];exact(Nat.le_div_iff_mul_le Zl.out).2 (by rw[Nat.mul_comm];exact hle)
     omega
    subst VH;have oC:=TD hle;clear pL sY hle;generalize dU (By*D) P=c at*;go_wp2;refine bodyPost_ret (v:=.tuple #[.int .u64 (D:Int),.slice (some ⟨wr.heap.size,0,none⟩) (n+1) (n+1)]) (by simp[results,Tryz.results208,go_sem]) rfl ⟨wr.heap.size,rfl,⟨jI.out,sz⟩,aO eW.out eX.out⟩
  . have hlt:D<m:=by
     rcases Nat.lt_or_ge D m with h|h
     . exact h
     . exact absurd (Nat.le_trans (Nat.mul_le_mul_left By h) zo) hle
    have oC:=TC (a:=By*m) (b:=P) zo;clear pL sY;rw[oC];go_wp2;go_roundw;case rel=>exact⟨m,hlt,by omega,by go_num,DI.out,aO eW.out eX.out⟩
    case measure=>simp[intOf]
def _root_.Go.RowKit.Below.thenGrown {w a c:World}{b:Nat}(h:Bw w a)(k:a.grownBy c (some b)):w.grownBy c (some b):=
 ⟨k.os.trans h.os,k.tape.trans h.tape,k.output.trans h.output,Nat.le_trans h.size k.size,λi hi hn=>(k.block i (Nat.lt_of_lt_of_le hi h.size) hn).trans (h.block i hi)⟩
def Wn (w:World)(b o:Nat)(cs:List Value):Prop:=∀j (h:j<cs.length),w.cell? ⟨b,o+j,none⟩=some cs[j]
def Wn.cell {w:World}{b o:Nat}{cs:List Value}(h:Wn w b o cs)(j:Nat)(hj:j<cs.length):w.cell? ⟨b,o+j,none⟩=some cs[j]:=h j hj
def Wn.below {w w':World}{b o:Nat}{cs:List Value}(h:Wn w b o cs)(hb:Bw w w'):Wn w' b o cs:=λj hj=>cell_later hb (h j hj)
def aqP (h lo y:Nat)(w:World)(hy1:9223372036854775808<=y)(hy:y<WW)(hh:h<y)(hl:lo<WW):
 Cl 207 #[.int .u64 (h:Int),.int .u64 (lo:Int),.int .u64 (y:Int)] w λe w'=>(∃r,e=.returned (.tuple #[.int .u64 (((h*WW+lo)/y:Nat):Int),.int .u64 r]))/\Bw w w':=by
 rcases Nat.eq_zero_or_pos h with h0|h0
 . subst h0;refine(aqR lo y w zo hy hl).mono ?_;rintro e w' ⟨r,rfl,hb⟩;refine⟨⟨r,?_⟩,hb⟩;rw[Nat.zero_mul,Nat.zero_add]
 . refine(aqQ h lo y w hy1 hy hh hl h0).mono ?_;rintro e w' ⟨r,he,hb⟩;exact⟨⟨r,he⟩,hb⟩
def take_at {R By at' n:Nat}(hR:R<WW^(at'+n+1))(j:Nat):
 ic (dg R) at' (n+1) (dg (R/WW^at'-By* (R/WW^at'/By))) j=dg (R-By* (R/WW^at'/By) *WW^at') j:=by
 obtain⟨P,hP⟩:=aK (R/WW^at');obtain⟨lo,hlo⟩:=aK (R%WW^at');obtain⟨S,hS⟩:=aK (By* (P/By));have hl:lo<WW^at':=by rw[<-hlo];exact Nat.mod_lt _ (eY _)
 have e:=Nat.div_add_mod R (WW^at');rw[hP,hlo]at e;have hSP:S<=P:=by rw[<-hS];exact Nat.mul_div_le _ _
 have NR:P<WW^(n+1):=by rw[<-hP];refine Nat.div_lt_of_lt_mul ?_;rw[<-Nat.pow_add];exact hR
 rw[hP,hS];have e1:R=P*WW^at'+lo:=by rw[<-e,Nat.mul_comm]
 have e2:R-S*WW^at'=(P-S) *WW^at'+lo:=by have:S*WW^at'<=P*WW^at':=Nat.mul_le_mul_right _ hSP;rw[e1,Nat.sub_mul];omega
 rw[e2,acC _ _ _ _ hl];unfold ic;by_cases h1:j<at'
 . rw[if_neg zo,if_pos h1,e1,acC _ _ _ _ hl,if_pos h1]
 . rw[if_neg h1];by_cases h2:j<at'+(n+1)
   . rw[if_pos zo]
   . rw[if_neg zo,vI (k:=at'+n+1) hR zo,vI (k:=n+1) (Nat.lt_of_le_of_lt (Nat.sub_le _ _) NR) zo]
def aqO (b L iT R b2 o2 n cap2 By at':Nat)(w:World)(hL:L<=1099511627775)(hLc:L<=iT)(hn:0<n)(BV:n<=cap2)(hB:au w b 152 (bU L (dg R)))(hy:eN w b2 o2 n By)(NG:By<WW^n)(htop:9223372036854775808<=dg By (n-1))
 (hR:R<By*WW^(at'+1)) (hat:at'+n+1<=L) (hne:b2≠b):
 Cl 199 #[.agg #[.slice (some ⟨b,0,none⟩) L iT,.slice (some ⟨b2,o2,none⟩) n cap2],ah (at':Int)] w λe w'=>
  e=.returned (.int .u64 ((R/WW^at'/By:Nat):Int))/\au w' b 152 (bU L (dg (R-By* (R/WW^at'/By) *WW^at')))/\w.grownBy w' (some b):=by
 have adj:0<By:=by
  rcases Nat.eq_zero_or_pos By with h|h
  . subst h;unfold dg at htop;simp at htop
  . exact h
 have UI:R<WW^(at'+n+1):=by refine Nat.lt_of_lt_of_le hR ?_;rw[show WW^(at'+n+1)=WW^n*WW^(at'+1)by rw[<-Nat.pow_add];congr 1;omega];exact Nat.mul_le_mul_right _ (Nat.le_of_lt NG)
 have htake:=λj=>take_at (R:=R) (By:=By) (at':=at') (n:=n) UI j;obtain⟨P,hP⟩:=aK (R/WW^at');have hPB:P<By*WW:=by rw[<-hP];refine Nat.div_lt_of_lt_mul ?_;rw[<-Nat.mul_assoc,Nat.mul_comm _ By,Nat.mul_assoc,Nat.mul_comm (WW^at'),<-Nat.pow_succ'];exact hR
 have hPW:P<WW^(n+1):=by rw[<-hP];refine Nat.div_lt_of_lt_mul ?_;rw[<-Nat.pow_add];exact UI
 have IK:∀j,dg P j=dg R (at'+j):=λj=>by rw[<-hP];exact MZ R at' j
 obtain⟨G,hG⟩:=aK (if dg P n<dg By (n-1)then(dg P n*WW+dg P (n-1))/dg By (n-1)else WW-1);have hge:=ar1 (P:=P) (by':=By) hn hPB zo NG;rw[hG]at hge;have Ve:=kI By (n-1);have UN:=kI P (n-1);obtain⟨top,Cw⟩:=aK (dg P n);obtain⟨T0,hT0⟩:=aK (dg P (n-1));obtain⟨b1,hb1⟩:=aK (dg By (n-1));rw[Cw,hT0,hb1]at hG;rw[hb1]at htop Ve;rw[hT0]at UN;have hlb:=hB.lt;have atb:b2<w.heap.size:=World.block_lt_of_cell? w _ (hy 0 hn);have TG:w.cell? ⟨b,at'+n,none⟩=some (.int .u64 (top:Int)):=by rw[hB.cell,iz _ _ _ zo,<-Cw,IK]
 have Tx:w.cell? ⟨b,at'+n-1,none⟩=some (.int .u64 (T0:Int)):=by rw[hB.cell,iz _ _ _ zo,<-hT0,IK];congr 4;omega
 have Ty:w.cell? ⟨b2,o2+(n-1),none⟩=some (.int .u64 (b1:Int)):=by rw[<-hb1];exact hy _ zo
 have Ad:eN w b at' (n+1) P:=λj hj=>by rw[hB.cell,iz _ _ _ zo,IK]
 have i1:=JX L iT (at'+n) ((at':Int)+(n:Int)) (rfl:(some ⟨b,0,none⟩:Option Addr)=_) zo zo;have i2:=JX L iT (at'+n-1) ((at':Int)+(n:Int)-1) (rfl:(some ⟨b,0,none⟩:Option Addr)=_) zo zo;have i3:=JX n cap2 (n-1) ((n:Int)-1) (rfl:(some ⟨b2,o2,none⟩:Option Addr)=_) zo zo;rw[Nat.mul_one,Nat.zero_add]at i1 i2;rw[Nat.mul_one]at i3;have hsl:at'+n+1-at'=n+1:=by omega
 have hmk:=CC ((n:Int)+1) (n+1) zo zo;obtain⟨ZY,Hy,vt,Lr,yA,HP,Hge,Zp,Mh,Dy,Hne,Lv⟩:=gg hB hy NG adj hPW hP hge hG htake Ad hne IK;obtain⟨GC,akT,ZJ⟩:=cX htop Ve UN;obtain⟨D,hD⟩:=aK (P/By);have HD:=ar hD;rw[hP,hD];rw[hD]at hge;have Ra:Hid (Wn w b (at'+n) [.int .u64 (top:Int)]):=λj hj=>by
  obtain rfl:j=0:=by simp at hj;omega
  exact TG
 have AR:Hid (Wn w b (at'+n-1) [.int .u64 (T0:Int)]):=λj hj=>by
  obtain rfl:j=0:=by simp at hj;omega
  exact Tx
 have AU:Hid (Wn w b2 (o2+(n-1)) [.int .u64 (b1:Int)]):=λj hj=>by
  obtain rfl:j=0:=by simp at hj;omega
  exact Ty
 clear hB hy NG adj hPW hP hge hG htake Ad hne htop Ve UN hD hPB IK UI hR Cw hT0 hb1 TG Tx Ty;obtain⟨W,dK,Hb,Hx⟩:=jD w 219 [.slice (some ⟨b,0,none⟩) L iT,.slice (some ⟨b2,o2,none⟩) n cap2];obtain⟨x0,x1⟩:=Hx.out.c2;replace Ra:=ar (Ra.out.below Hb.out);replace AR:=ar (AR.out.below Hb.out);replace AU:=ar (AU.out.below Hb.out);have TG:W.cell? ⟨b,at'+n,none⟩=some (.int .u64 (top:Int)):=Ra.out.cell 0 zm;have Tx:W.cell? ⟨b,at'+n-1,none⟩=some (.int .u64 (T0:Int)):=AR.out.cell 0 zm;have Ty:W.cell? ⟨b2,o2+(n-1),none⟩=some (.int .u64 (b1:Int)):=AU.out.cell 0 zm;go_enter Tryz.func199,Tryz.ntmps199;by_cases hlt:top<b1
 . have bC:(top:Int)<(b1:Int):=by omega
   have EB:=λW=>aqP top T0 b1 W GC.out akT.out hlt ZJ.out;have zJ:=Zp.out;rw[if_pos hlt]at zJ;rw[zJ]at EB;have rH:Hid (G<WW):=by
    show _<_
    rw[<-zJ];refine Nat.div_lt_of_lt_mul ?_;have h1:=ZJ.out;have h2:(top+1) *WW<=b1*WW:=Nat.mul_le_mul_right _ hlt;rw[Nat.add_mul,Nat.one_mul]at h2;omega
   have Dl:=ar EB;clear EB zJ;go_wp2_with fail;have k1:IntKind.i64.wrap ((at':Int)+(n:Int))=(at':Int)+(n:Int):=by rw[IntKind.wrap_i64];omega
   have k2:IntKind.i64.wrap ((at':Int)+(n:Int)-1)=(at':Int)+(n:Int)-1:=by rw[IntKind.wrap_i64];omega
   have k3:IntKind.i64.wrap ((n:Int)-1)=(n:Int)-1:=by rw[IntKind.wrap_i64];omega
   obtain⟨x0,x1⟩:=Hx.out.c2;have MK:W.cell? ⟨b,at'+n-1,none⟩=some (.int .u64 (T0:Int)):=AR.out.cell 0 zm;have ML:W.cell? ⟨b2,o2+(n-1),none⟩=some (.int .u64 (b1:Int)):=AU.out.cell 0 zm;refine bV (λw'=>aF w' (w.heap.size) 0 (.slice (some ⟨b,0,none⟩) L iT)/\aF w' (w.heap.size) 1 (.slice (some ⟨b2,o2,none⟩) n cap2)/\aF w' b (at'+n-1) (.int .u64 (T0:Int))/\aF w' b2 (o2+(n-1)) (.int .u64 (b1:Int))) (λi=>Nat.blt i 100000) [(0,true),(1,true),(2,true),(3,true),(4,true),(5,true),(6,true),(7,true),(8,true),(9,true),(10,true),(11,true),(12,true),(13,true),(14,true),(15,false),(16,true),(17,true),(18,true),(19,true)] zk zk rfl zk zc ⟨x0,x1,MK,ML⟩ ?_;iterate 15 (refine pT rfl rfl ?_ (by intro w' ⟨q0,q1,q2,q3⟩;go_simp;try with_reducible rfl))
   refine aR rfl rfl (λK hK=>?_);go_simp;with_reducible refine(Dl.out _).mono ?_
   rintro e w1 ⟨⟨r,rfl⟩,hq⟩;have ag:Bw W w1:=by first|exact hq|exact bo hq
   clear x0 x1 MK ML;replace Hx:=kB Hx ag;replace AR:=ar (AR.out.below ag);replace AU:=ar (AU.out.below ag);obtain⟨x0,x1⟩:=Hx.out.c2;have MK:w1.cell? ⟨b,at'+n-1,none⟩=some (.int .u64 (T0:Int)):=AR.out.cell 0 zm;have ML:w1.cell? ⟨b2,o2+(n-1),none⟩=some (.int .u64 (b1:Int)):=AU.out.cell 0 zm;replace Hb:=az Hb ag;refine hK _ _ (λ_=>⟨x0,x1,MK,ML⟩) ?_
   iterate 4 (refine pT rfl rfl ?_)
   simp only[bu];have Yw:=Hb.out.size;have lx:=Hx.out.lt;obtain⟨W2,hW2⟩:=aK (w1.alloc (.cells (bU (n+1) λ_=>0).toArray 152));have hb2:Bw w1 W2:=by rw[<-hW2];exact zl
   have fN:Hid (au W2 w1.heap.size 152 (bU (n+1) λ_=>0)):=by rw[<-hW2];exact au.new _ _ _
   obtain⟨eJ,uf⟩:=aZ (aO Hb.out hb2) (Hx.out.below hb2);clear hb2;obtain⟨y0,y1⟩:=uf.out.c2;go_wp2_with fail;refine(Pj w1.heap.size (n+1) 0 (n+1) (n+1) (λ_=>0) 0 b2 o2 n cap2 By G W2 zo zo fN.out zo (λj _=>by unfold dg;rw[Nat.zero_div];rfl) (Hy.out.below eJ.out) vt.out zo rH.out).mono ?_;rintro e w3 ⟨rfl,qB,qg⟩
   have eB:bU (n+1) (ic (λ_=>0) 0 (n+1) (dg (0+By*G)))=bU (n+1) (dg (By*G)):=lU (λj hj=>by
    have:=Km (λ_=>0) 0 (n+1) (dg (0+By*G)) j hj
    simpa only[Nat.zero_add]using this)
   rw[eB]at qB;have lW:=ar qB;have ux:=CH vt.out rH.out;have Aa:=jY ux;obtain⟨FO,yT⟩:=aZ ux (uf.out.grown qg (λh=>by have:=Option.some.inj h;omega));have sD:Hid (eN w3 b at' (n+1) P):=(Dy.out.below eJ.out).grown qg (λh=>by have:=Option.some.inj h;omega);obtain⟨QS,eW⟩:=aZ ((ZY.out.below eJ.out).grown qg (λh=>by have:=Option.some.inj h;omega)) (eJ.out.grown qg (by have:=eJ.out.size;omega) (λj e=>by have:=Option.some.inj e;omega));clear qB qg eB ux x0 x1 y0 y1;obtain⟨x0,x1⟩:=yT.out.c2;go_wp2_with fail;refine(mY w1.heap.size 0 (n+1) (n+1) (By*G) w3 zo (Nat.le_refl _) (lW.out.lim _ (Nat.le_refl _)) FO.out).mono ?_;rintro e w4 ⟨rfl,rfl⟩;go_wp2_with fail;refine(CB w1.heap.size 0 (ln (By*G)) (n+1) (By*G) b at' (n+1) (iT-at') P w3 zo Aa (lW.out.lim _ Aa) (fC _) zo zo sD.out yA.out).mono ?_;rintro e w5 ⟨rfl,dL⟩;obtain⟨eX,DI,wK,jJ⟩:=ej dL (yT.out.below dL) (lW.out.below dL) (QS.out.below dL);have rG:=ar (aO eW.out eX.out);clear dL x0 x1;obtain⟨x0,x1⟩:=DI.out.c2;by_cases hle:By*G<=P
   . have IE:D=G:=by
      have h1:G<=D:=by rw[<-HD.out];exact(Nat.le_div_iff_mul_le Lr.out).2 (by rw[Nat.mul_comm];exact hle)
      have h2:=Hge.out;rw[HD.out]at h2;omega
     have AJ:=ar IE;have oC:=TD hle;have Dp:=ar hle;clear IE hle;obtain⟨c,hc⟩:=aK (dU (By*G) P);rw[hc]at oC;rw[hc];clear hc;have asP:¬0<c:=by omega
     go_wp2_with fail;refine(Kf b L at' (n+1) (iT-at') (dg R) P w1.heap.size 0 (n+1) (n+1) (By*G) w5 zo zo jJ.out zo (λj _=>(Lv.out j).symm) (wK.out.lim _ (Nat.le_refl _)) (CH vt.out (by first|exact rH.out|exact FK.out)) ZS Dp.out yA.out).mono ?_;rintro e w6 ⟨rfl,qh,vg⟩
     have uq:bU L (ic (dg R) at' (n+1) (dg (P-By*G)))=bU L (dg (R-By*G*WW^at')):=lU (λj _=>by
      have h:=Mh.out j;rw[HP.out,HD.out,AJ.out]at h
      exact h)
     rw[uq]at qh;obtain⟨kC,xb⟩:=aZ qh vg;clear qh vg uq;go_wp2;refine bodyPost_ret (v:=.int .u64 (D:Int)) (by have hh:=AJ.out;simp[results,Tryz.results199,go_sem,hh]) rfl ⟨rfl,by rw[AJ.out];exact kC.out,Below.thenGrown rG.out xb.out⟩
   . have oC:=TC (a:=By*G) (b:=P) zo;have hDl:P/By<G:=by
      rcases Nat.lt_or_ge (P/By) G with h|h
      . exact h
      . exact absurd (Nat.le_trans (Nat.mul_le_mul_left By h) (Nat.mul_div_le _ _)) hle
     have FL:=ar hDl;have FK:Hid (D<WW):=by have h1:=rH.out;have h2:=FL.out;rw[HD.out]at h2;exact Nat.lt_trans h2 h1
     clear hDl hle;rw[oC];clear oC;go_wp2_with fail;refine(agZ (some ⟨b,0,none⟩) L iT b2 o2 n cap2 By b at' (iT-at') P G w5 zo BV zo (Hy.out.below rG.out) vt.out Lr.out (sD.out.below eX.out) yA.out FL.out rH.out).mono ?_;rintro e w7 ⟨mb,rfl,⟨qM,lmb⟩,qb⟩;have Qi:=rG.out.size;replace wK:=ar qM;replace jJ:=ar (jJ.out.below qb);replace rG:=ar (aO rG.out qb);rw[HD.out]at wK;rw[HD.out];have Qh:=jJ.out.lt;clear qM qb x0 x1;go_wp2_with fail;refine(Kf b L at' (n+1) (iT-at') (dg R) P mb 0 (n+1) (n+1) (By*D) w7 zo zo jJ.out zo (λj _=>(Lv.out j).symm) (wK.out.lim _ (Nat.le_refl _)) (CH vt.out (by first|exact rH.out|exact FK.out)) ZS (by rw[<-HD.out];exact Nat.mul_div_le _ _) yA.out).mono ?_;rintro e w6 ⟨rfl,qh,vg⟩
     have uq:bU L (ic (dg R) at' (n+1) (dg (P-By*D)))=bU L (dg (R-By*D*WW^at')):=lU (λj _=>by
      have h:=Mh.out j;rw[HP.out,HD.out]at h
      exact h)
     rw[uq]at qh;obtain⟨kC,xb⟩:=aZ qh vg;clear qh vg uq;go_wp2;refine bodyPost_ret (results_tmp rfl _ _ _) rfl ⟨rfl,kC.out,Below.thenGrown rG.out xb.out⟩
 . have bC:¬(top:Int)<(b1:Int):=by omega
   have zJ:=Zp.out;rw[if_neg hlt,kF]at zJ;have asc:18446744073709551615=G:=zJ;subst asc;have rH:Hid (18446744073709551615<WW):=by show _<_;rw[kF];decide
   clear zJ;have Yw:=Hb.out.size;have lx:=Hx.out.lt;obtain⟨W2,hW2⟩:=aK (W.alloc (.cells (bU (n+1) λ_=>0).toArray 152));have hb2:Bw W W2:=by rw[<-hW2];exact zl
   have fN:Hid (au W2 W.heap.size 152 (bU (n+1) λ_=>0)):=by rw[<-hW2];exact au.new _ _ _
   obtain⟨eJ,uf⟩:=aZ (aO Hb.out hb2) (Hx.out.below hb2);clear hb2;obtain⟨y0,y1⟩:=uf.out.c2;go_wp2_with fail;refine(Pj W.heap.size (n+1) 0 (n+1) (n+1) (λ_=>0) 0 b2 o2 n cap2 By 18446744073709551615 W2 zo zo fN.out zo (λj _=>by unfold dg;rw[Nat.zero_div];rfl) (Hy.out.below eJ.out) vt.out zo rH.out).mono ?_;rintro e w3 ⟨rfl,qB,qg⟩
   have eB:bU (n+1) (ic (λ_=>0) 0 (n+1) (dg (0+By*18446744073709551615)))=bU (n+1) (dg (By*18446744073709551615)):=lU (λj hj=>by
    have:=Km (λ_=>0) 0 (n+1) (dg (0+By*18446744073709551615)) j hj
    simpa only[Nat.zero_add]using this)
   rw[eB]at qB;have lW:=ar qB;have ux:=CH vt.out rH.out;have Aa:=jY ux;obtain⟨FO,yT⟩:=aZ ux (uf.out.grown qg (λh=>by have:=Option.some.inj h;omega));have sD:Hid (eN w3 b at' (n+1) P):=(Dy.out.below eJ.out).grown qg (λh=>by have:=Option.some.inj h;omega);obtain⟨QS,eW⟩:=aZ ((ZY.out.below eJ.out).grown qg (λh=>by have:=Option.some.inj h;omega)) (eJ.out.grown qg (by have:=eJ.out.size;omega) (λj e=>by have:=Option.some.inj e;omega));clear qB qg eB ux x0 x1 y0 y1;obtain⟨x0,x1⟩:=yT.out.c2;go_wp2_with fail;refine(mY W.heap.size 0 (n+1) (n+1) (By*18446744073709551615) w3 zo (Nat.le_refl _) (lW.out.lim _ (Nat.le_refl _)) FO.out).mono ?_;rintro e w4 ⟨rfl,rfl⟩;go_wp2_with fail;refine(CB W.heap.size 0 (ln (By*18446744073709551615)) (n+1) (By*18446744073709551615) b at' (n+1) (iT-at') P w3 zo Aa (lW.out.lim _ Aa) (fC _) zo zo sD.out yA.out).mono ?_;rintro e w5 ⟨rfl,dL⟩;obtain⟨eX,DI,wK,jJ⟩:=ej dL (yT.out.below dL) (lW.out.below dL) (QS.out.below dL);have rG:=ar (aO eW.out eX.out);clear dL x0 x1;obtain⟨x0,x1⟩:=DI.out.c2;by_cases hle:By*18446744073709551615<=P
   . have IE:D=18446744073709551615:=by
      have h1:18446744073709551615<=D:=by rw[<-HD.out];exact(Nat.le_div_iff_mul_le Lr.out).2 (by rw[Nat.mul_comm];exact hle)
      have h2:=Hge.out;rw[HD.out]at h2;omega
     have AJ:=ar IE;have oC:=TD hle;have Dp:=ar hle;clear IE hle;obtain⟨c,hc⟩:=aK (dU (By*18446744073709551615) P);rw[hc]at oC;rw[hc];clear hc;have asP:¬0<c:=by omega
     go_wp2_with fail;refine(Kf b L at' (n+1) (iT-at') (dg R) P W.heap.size 0 (n+1) (n+1) (By*18446744073709551615) w5 zo zo jJ.out zo (λj _=>(Lv.out j).symm) (wK.out.lim _ (Nat.le_refl _)) (CH vt.out (by first|exact rH.out|exact FK.out)) ZS Dp.out yA.out).mono ?_;rintro e w6 ⟨rfl,qh,vg⟩
     have uq:bU L (ic (dg R) at' (n+1) (dg (P-By*18446744073709551615)))=bU L (dg (R-By*18446744073709551615*WW^at')):=lU (λj _=>by
      have h:=Mh.out j;rw[HP.out,HD.out,AJ.out]at h
      exact h)
     rw[uq]at qh;obtain⟨kC,xb⟩:=aZ qh vg;clear qh vg uq;go_wp2;refine bodyPost_ret (v:=.int .u64 (D:Int)) (by have hh:=AJ.out;simp[results,Tryz.results199,go_sem,hh]) rfl ⟨rfl,by rw[AJ.out];exact kC.out,Below.thenGrown rG.out xb.out⟩
   . have oC:=TC (a:=By*18446744073709551615) (b:=P) zo;have hDl:P/By<18446744073709551615:=by
      rcases Nat.lt_or_ge (P/By) 18446744073709551615 with h|h
      . exact h
      . exact absurd (Nat.le_trans (Nat.mul_le_mul_left By h) (Nat.mul_div_le _ _)) hle
     have FL:=ar hDl;have FK:Hid (D<WW):=by have h1:=rH.out;have h2:=FL.out;rw[HD.out]at h2;exact Nat.lt_trans h2 h1
     clear hDl hle;rw[oC];clear oC;go_wp2_with fail;refine(agZ (some ⟨b,0,none⟩) L iT b2 o2 n cap2 By b at' (iT-at') P 18446744073709551615 w5 zo BV zo (Hy.out.below rG.out) vt.out Lr.out (sD.out.below eX.out) yA.out FL.out rH.out).mono ?_;rintro e w7 ⟨mb,rfl,⟨qM,lmb⟩,qb⟩;have Qi:=rG.out.size;replace wK:=ar qM;replace jJ:=ar (jJ.out.below qb);replace rG:=ar (aO rG.out qb);rw[HD.out]at wK;rw[HD.out];have Qh:=jJ.out.lt;clear qM qb x0 x1;go_wp2_with fail;refine(Kf b L at' (n+1) (iT-at') (dg R) P mb 0 (n+1) (n+1) (By*D) w7 zo zo jJ.out zo (λj _=>(Lv.out j).symm) (wK.out.lim _ (Nat.le_refl _)) (CH vt.out (by first|exact rH.out|exact FK.out)) ZS (by rw[<-HD.out];exact Nat.mul_div_le _ _) yA.out).mono ?_;rintro e w6 ⟨rfl,qh,vg⟩
     have uq:bU L (ic (dg R) at' (n+1) (dg (P-By*D)))=bU L (dg (R-By*D*WW^at')):=lU (λj _=>by
      have h:=Mh.out j;rw[HP.out,HD.out]at h
      exact h)
     rw[uq]at qh;obtain⟨kC,xb⟩:=aZ qh vg;clear qh vg uq;go_wp2;refine bodyPost_ret (results_tmp rfl _ _ _) rfl ⟨rfl,kC.out,Below.thenGrown rG.out xb.out⟩
def TW (X Y j:Nat):X% (Y*WW^(j+1))/WW^j/Y=dg (X/Y) j:=by unfold dg;rw[Nat.div_div_eq_div_mul,Nat.div_div_eq_div_mul,show Y*WW^(j+1)=WW^j*Y*WW by rw[Nat.pow_succ,<-Nat.mul_assoc,Nat.mul_comm Y],Nat.mod_mul_right_div_self,Nat.mul_comm Y]
def aqS (X Y j:Nat):X% (Y*WW^(j+1))-Y* (X% (Y*WW^(j+1))/WW^j/Y) *WW^j=X% (Y*WW^j):=by
 rw[TW];have e:Y*WW^(j+1)=Y*WW^j*WW:=by rw[Nat.pow_succ,<-Nat.mul_assoc]
 have e2:dg (X/Y) j=X/(Y*WW^j)%WW:=by unfold dg;rw[Nat.div_div_eq_div_mul]
 rw[e,Nat.mod_mul,e2];have e3:Y* (X/(Y*WW^j)%WW) *WW^j=Y*WW^j* (X/(Y*WW^j)%WW):=by grind
 rw[e3];omega
def av9 {Y:Nat}(h:0<Y):∃s,s<64/\s=64-bT (dg Y (ln Y-1))/\Y*2^s<WW^ln Y/\9223372036854775808<=dg (Y*2^s) (ln Y-1)/\ln (Y*2^s)=ln Y/\0<bT (dg Y (ln Y-1))/\bT (dg Y (ln Y-1))<=64:=by
 have hl:=Pi h;obtain⟨k,hk⟩:∃k,ln Y=k+1:=⟨ln Y-1,by omega⟩;obtain⟨h1,h2⟩:=ag7 hk;obtain⟨t1,t2,t3⟩:=ab2 Y k h1 h2;rw[hk,Nat.add_sub_cancel];obtain⟨B,hB⟩:=aK (bT (dg Y k));rw[hB]at t1 t2 t3⊢;have h3:=sJ Y;rw[t1]at h3;have e1:WW^(k+1)=2^(64*k+64):=by rw[mW];congr 1
 have e2:(2:Nat)^(64*k+64)=2^(64*k+B) *2^(64-B):=by rw[<-Nat.pow_add];congr 1;omega
 have hlt:Y*2^(64-B)<WW^(k+1):=by rw[e1,e2];exact Nat.mul_lt_mul_of_pos_right h3 (Nat.pow_pos zd)
 have hge:2^(64*k+B-1)<=Y:=by
  rcases Nat.lt_or_ge Y (2^(64*k+B-1))with h4|h4
  . have:=iG h4;omega
  . exact h4
 have ae9:9223372036854775808*WW^k<=Y*2^(64-B):=by
  have e3:9223372036854775808*WW^k=2^(64*k+B-1) *2^(64-B):=by rw[mW,<-Nat.pow_add,show 64*k+B-1+(64-B)=63+64*k by omega,Nat.pow_add]
  rw[e3];exact Nat.mul_le_mul_right _ hge
 refine⟨64-B,by omega,rfl,hlt,?_,?_,t3,t2⟩
 . unfold dg;have h5:9223372036854775808<=Y*2^(64-B)/WW^k:=(Nat.le_div_iff_mul_le (eY k)).2 ae9;have h6:Y*2^(64-B)/WW^k<WW:=by refine Nat.div_lt_of_lt_mul ?_;rw[Nat.pow_succ]at hlt;exact hlt
   rw[Nat.mod_eq_of_lt h6];exact h5
 . refine ag6 hlt (Nat.le_trans ?_ ae9);exact Nat.le_mul_of_pos_left _ zd
def aqm (b o n cap v:Nat)(w:World)(hm:n<=1099511627776)(hcap:n<=cap)(hc:eN w b o n v)(hv:v<WW^n):
 Cv 168 #[.slice (some ⟨b,o,none⟩) n cap] w (.slice (some ⟨b,o,none⟩) (ln v) cap):=by
 refine(mY b o n cap v w hm hcap hc hv).mono ?_;rintro e w' ⟨he,rfl⟩;exact⟨he,Below.refl _ _⟩
def aqV (b m cap v n:Nat)(w:World)(hm:m<=549755813888)(hcap:m<=cap)(hn:n<64)(hx:eN w b 0 m v)(hv:v<WW^m):
 Cl 170 #[.slice (some ⟨b,0,none⟩) m cap,ah (n:Int)] w λe w'=>∃a k c,e=.returned (.slice a k c)/\(DJ w' a k (v/2^n)/\k<=c/\k<=549755813888/\v/2^n<WW^k)/\Bw w w':=by
 rcases Nat.eq_zero_or_pos m with h|h
 . subst h;have hv0:v=0:=by simpa using hv
   subst hv0;refine(acG (some ⟨b,0,none⟩) 0 cap n w zo zo zo).mono ?_;rintro e w' ⟨he,rfl⟩;exact⟨none,0,0,he,⟨λh=>absurd h zo,Nat.le_refl _,by omega,by rw[Nat.zero_div];exact eY 0⟩,Below.refl _ _⟩
 . have h64:n/64=0:=by omega
   refine(acF b 0 m cap v n w hm hcap zo hx hv zo).mono ?_;rintro e w' ⟨he,hB,hb,hle⟩;exact⟨_,_,_,he,⟨λ_=>⟨_,_,rfl,hB.lim _ hle⟩,hle,by omega,fC _⟩,hb⟩
def av0 (l m:List UInt8)(w:World)(hl:l.length<=68719476736)(hm:m.length<=68719476736)(hm0:0<nv m)(hle:nv m<=nv l):
 Cv 180 #[ai l,ai m] w (.tuple #[ai (nt (nv l/nv m)),ai (nt (nv l%nv m)),aj true]):=by
 obtain⟨X,hX⟩:=aK (nv l);obtain⟨Y,hY⟩:=aK (nv m);have h1:=λW=>oO l W zo;have h2:=λW=>oO m W zo;rw[hX]at h1 hle⊢;rw[hY]at h2 hle hm0⊢;obtain⟨s,hs,hse,NY,OT,OC,Jb,hbl⟩:=av9 hm0;have Eu:0<X:=by omega
 have hlx:=Pi Eu;have Jr:=Pi hm0;obtain⟨lx,Ce⟩:=aK (ln X);obtain⟨ly,Cf⟩:=aK (ln Y);have sS:=fC X;have xM:=fC Y;rw[Ce]at h1 hlx sS;rw[Cf]at h2 Jr xM NY OT OC hse Jb hbl;obtain⟨cx,mB⟩:=aK ((l.length+7)/8);obtain⟨cy,zU⟩:=aK ((m.length+7)/8);rw[mB]at h1;rw[zU]at h2;have OD:lx<=cx:=by rw[<-Ce,<-mB,<-hX];exact jY (Mt l)
 have OE:ly<=cy:=by rw[<-Cf,<-zU,<-hY];exact jY (Mt m)
 have asR:cx<=8589934593:=by omega
 have Oe:cy<=8589934593:=by omega
 have oC:¬dU X Y<0:=by unfold dU;rw[if_neg zo];split<;>omega
 have Oi:X*2^s/(Y*2^s)=X/Y:=Nat.mul_div_mul_right _ _ (Nat.pow_pos zd);have hdr:X*2^s% (Y*2^s)=X%Y*2^s:=Nat.mul_mod_mul_right _ _ _;have fY:X*2^s<WW^(lx+1):=by rw[Nat.pow_succ];exact Nat.mul_lt_mul'' sS (by rw[mV];exact Nat.pow_lt_pow_right zd hs)
 have afu:=jY fY;obtain⟨X',UV⟩:=aK (X*2^s);obtain⟨Y',UZ⟩:=aK (Y*2^s);have OU:=λb W h=>YM b 0 lx cx X s W zo zo h sS;have Wp:=λb W h=>YM b 0 ly cy Y s W zo zo h xM;rw[UV]at Oi hdr fY afu;rw[UZ]at Oi hdr NY OT OC;simp only[UV,show s/64=0 by omega,Nat.add_zero]at OU;simp only[UZ,show s/64=0 by omega,Nat.add_zero,OC]at Wp;obtain⟨lX,OB⟩:=aK (ln X');rw[OB]at afu;simp only[OB]at OU;have UX:X'<WW^lX:=by rw[<-OB];exact fC _
 have Vp:=λb W h=>TF (some ⟨b,0,none⟩) lX (lx+1) X' ((lx:Int)+2) W zo zo zo h UX;rw[show max ((lx:Int)+2).toNat lX=lx+2 by omega]at Vp;have Js:∀W,Cl 191 #[.int .u64 (dg Y (ly-1):Int)] W λe w'=>e=.returned (ah (s:Int))/\W=w':=λW=>by have:=WZ (dg Y (ly-1)) W (kI _ _);rw[show(64-(bT (dg Y (ly-1)):Int))=(s:Int)by omega]at this;exact this
 have pN:ly<=lx:=by
  have h3:¬lx<ly:=λh3=>by have:=WU (v:=X) (u:=Y) (by rw[Ce,Cf];exact h3);omega
  omega
 have hmk:=CC ((lx:Int)+2-ly) (lx+2-ly) zo zo;obtain⟨H1,H2,ana,anb,Hcp,RG,Lz,QI,HYW,GC,Re,wQ⟩:=gg h1 h2 OU Wp Vp Js sS xM NY OT Oi hdr;obtain⟨aBc,ZR,Hm0⟩:=cX UX fY hm0;clear h1 h2 OU Wp Vp Js sS xM NY OT Oi hdr UX fY hX hY hse Ce Cf mB zU UV UZ OB OC hle Eu hm0 Jb hbl;go_enter Tryz.func180,Tryz.ntmps180;go_wp2_with fail;refine(H1.out w).mono ?_;rintro e w1 ⟨rfl,bX,hb1,gz⟩;obtain⟨ft,cu⟩:=aZ bX hb1;clear bX hb1;go_wp2_with fail;refine(H2.out w1).mono ?_;rintro e w2 ⟨rfl,eO,hb2,EH⟩;obtain⟨fN,dD⟩:=aZ eO (aO cu.out hb2);replace ft:=ar (ft.out.below hb2);have s1:=ft.out.lt;have s2:=fN.out.lt;clear eO hb2;have atd:((ly:Int)==0)=false:=by simp;omega
 go_wp2_with fail;refine(CB w.heap.size 0 lx cx X w1.heap.size 0 ly cy Y w2 zo gz (ft.out.lim _ gz) Lz.out zo EH (fN.out.lim _ EH) QI.out).mono ?_;rintro e w3 ⟨rfl,hb3⟩;replace ft:=ar (ft.out.below hb3);replace fN:=ar (fN.out.below hb3);have eW:=ar (aO dD.out hb3);clear hb3;obtain⟨c,hc⟩:=aK (dU X Y);rw[hc]at oC⊢;clear hc;have hdec:decide (c<0)=false:=by simp;omega
 have i1:=JX ly cy (ly-1) ((ly:Int)-1) (rfl:(some ⟨w1.heap.size,0,none⟩:Option Addr)=_) zo zo;rw[Nat.mul_one,Nat.zero_add]at i1;have cY:w3.cell? ⟨w1.heap.size,ly-1,none⟩=some (.int .u64 (dg Y (ly-1):Int)):=by rw[fN.out.cell,iz _ _ _ zo]
 go_wp2_with fail;refine(RG.out w3).mono ?_;rintro e w4 ⟨rfl,rfl⟩;clear cY i1;go_wp2_with fail;refine(ana.out w.heap.size w3 (ft.out.lim _ gz)).mono ?_;rintro e w4 ⟨rfl,qB,qb,qle⟩;have Qz:=ar qB;replace fN:=ar (fN.out.below qb);have nZ:=ar (aO eW.out qb);have s4:=Qz.out.lt;clear qB qb;go_wp2_with fail;refine(Hcp.out w3.heap.size w4 (λ_=>⟨_,_,rfl,Qz.out.lim _ zo⟩)).mono ?_;rintro e w5 ⟨rfl,qB,qb⟩;have jI:=ar qB;replace fN:=ar (fN.out.below qb);have eX:=ar (aO nZ.out qb);have s5:=jI.out.lt;clear qB qb;go_wp2_with fail;refine(anb.out w1.heap.size w5 (fN.out.lim _ EH)).mono ?_;rintro e w6 ⟨rfl,qB,qb,aE9⟩;have kC:=ar qB;replace jI:=ar (jI.out.below qb);have wO:=ar (aO eX.out qb);have s6:=kC.out.lt;have s65:=jI.out.lt;have q4:=nZ.out.size;clear qB qb ft fN Qz cu dD eW nZ eX;obtain⟨M,hM⟩:=aK (lx+2-ly);rw[hM]at hmk;obtain⟨lB,hlB⟩:=aK w4.heap.size;obtain⟨yB,hyB⟩:=aK w5.heap.size;rw[hlB]at jI s5 s65 q4⊢;rw[hyB]at kC s6 s5⊢;obtain⟨W7,NV⟩:=aK (w6.alloc (.cells #[.slice (some ⟨lB,0,none⟩) (lx+2) (lx+2),.slice (some ⟨yB,0,none⟩) ly (ly+1)] 219));have oz:Bw w6 W7:=by rw[<-NV];exact zl
 have Rc:Hid (au W7 w6.heap.size 219 [.slice (some ⟨lB,0,none⟩) (lx+2) (lx+2),.slice (some ⟨yB,0,none⟩) ly (ly+1)]):=by rw[<-NV];exact au.new _ _ _
 have s7:W7.heap.size=w6.heap.size+1:=by rw[<-NV];simp
 obtain⟨W8,xK⟩:=aK (W7.alloc (.cells (bU M λ_=>0).toArray 152));have fG:Bw W7 W8:=by rw[<-xK];exact zl
 have Ho:Hid (au W8 W7.heap.size 152 (bU M λ_=>0)):=by rw[<-xK];exact au.new _ _ _
 have Hd:=ar (Rc.out.below fG);replace jI:=ar ((jI.out.below oz).below fG);replace kC:=ar ((kC.out.below oz).below fG);have gD:=ar (aO (aO wO.out oz) fG);have Qi:=wO.out.size;have S7:=ar s7;clear oz fG wO hlB hyB s7;obtain⟨d0,d1⟩:=Rc.out.c2;go_wp2_with fail;have aaI:Hid (eN W8 yB 0 ly Y'):=kC.out.lim _ zo;have Em:M+ly=lx+2:=by omega
 have UW:X'<Y'*WW^M:=by have h1:WW^(ly-1)<=Y':=aiY (by have:=GC.out;omega);have h2:WW^(ly-1) *WW^M<=Y'*WW^M:=Nat.mul_le_mul_right _ h1;rw[<-Nat.pow_add,show ly-1+M=lx+1 by omega]at h2;exact Nat.lt_of_lt_of_le ZR.out h2
 have hYp:0<Y':=by
  rcases Nat.eq_zero_or_pos Y' with h|h
  . have:=GC.out;rw[h]at this;unfold dg at this;simp at this
  . exact h
 have hQM:X'/Y'<WW^M:=Nat.div_lt_of_lt_mul UW;obtain⟨HXM,HYp,HQM⟩:=cX UW hYp hQM;clear UW hYp hQM d0 d1 NV xK hmk hM;obtain⟨oB,VR⟩:=aK W7.heap.size;rw[VR]at Ho⊢;have afJ:oB=w6.heap.size+1:=by rw[<-VR];exact S7.out
 obtain⟨dB,hdB⟩:=aK w6.heap.size;rw[hdB]at Hd afJ s6 s65 Qi⊢;have aC2:dB<oB:=by omega
 clear VR hdB S7 Rc afJ;go_loopw[12] (λx wr=>∃(k:Nat) (i:Int),k<=M/\i=(k:Int)-1/\x=ah i/\au wr dB 219 [.slice (some ⟨lB,0,none⟩) (lx+2) (lx+2),.slice (some ⟨yB,0,none⟩) ly (ly+1)]/\au wr lB 152 (bU (lx+2) (dg (X'% (Y'*WW^k))))/\au wr oB 152 (bU M λj=>if k<=j then dg (X'/Y') j else 0)/\eN wr yB 0 ly Y'/\Bw w wr) (λx _=>(intOf x+1).toNat);case atStart=>
  refine⟨M,_,Nat.le_refl _,rfl,rfl,Hd.out,?_,?_,aaI.out,gD.out⟩
  . rw[Nat.mod_eq_of_lt HXM.out];exact jI.out
  . have e:bU M (λj=>if M<=j then dg (X'/Y') j else 0)=bU M λ_=>0:=lU (λj hj=>by rw[if_neg zo]);rw[e];exact Ho.out
 case round=>
  clear Hd jI Ho aaI gD kC;obtain⟨k,i,hk,hi,rfl,pd,pl,po,py,pb⟩:=hrel;obtain⟨Hd,Hl,Ho,Hy,Hb⟩:=fU pd pl po py pb;clear pd pl po py pb;obtain⟨d0,d1⟩:=Hd.out.c2;by_cases nu:0<k
  . obtain⟨j,rfl⟩:∃j,k=j+1:=⟨k-1,by omega⟩;obtain rfl:i=(j:Int):=by omega
    clear hi;go_wp2_with fail;refine(aqO lB (lx+2) (lx+2) (X'% (Y'*WW^(j+1))) yB 0 ly (ly+1) Y' j wr zo (Nat.le_refl _) Jr zo Hl.out Hy.out HYW.out GC.out (Nat.mod_lt _ (Nat.mul_pos HYp.out (eY _))) zo zo).mono ?_;rintro e w9 ⟨rfl,qB,qg⟩;rw[TW]at qB⊢;have hrest:=aqS X' Y' j;rw[TW]at hrest;rw[hrest]at qB;have kn:∀b,b≠lB->some b≠some lB:=λb h e=>h (Option.some.inj e);obtain⟨RA,FY,RY,Hy9,wP⟩:=fU qB (Hd.out.grown qg (kn _ zo)) (Ho.out.grown qg (kn _ zo)) (Hy.out.grown qg (kn _ zo)) (Hb.out.grown qg Hb.out.size (λb e=>by have:=Option.some.inj e;omega));obtain⟨q,hq⟩:=aK (dg (X'/Y') j);rw[hq];have Hq:=ar hq;have i2:=JX M M j (j:Int) (rfl:(some ⟨oB,0,none⟩:Option Addr)=_) zo rfl;rw[Nat.mul_one,Nat.zero_add]at i2;have co:w9.cell? ⟨oB,j,none⟩=some (.int .u64 ((if j+1<=j then dg (X'/Y') j else 0:Nat):Int)):=by rw[RY.out.cell,iz _ _ _ zo]
    have fo:w9.frozen? ⟨oB,j,none⟩=false:=RY.out.free j;clear qB qg hrest hq d0 d1;obtain⟨d0,d1⟩:=FY.out.c2;go_wp2;go_roundw;case rel=>
     refine⟨j,(j:Int)-1,by omega,rfl,by go_num,FY.out.so oB j zo _,RA.out.so oB j zo _,?_,?_,wP.out.sc oB j zo _⟩
     . have h:=RY.out.set j (.int .u64 (q:Int));rw[FA]at h
       have e:bU M (λi=>if i=j then q else if j+1<=i then dg (X'/Y') i else 0)=bU M (λi=>if j<=i then dg (X'/Y') i else 0):=lU (λi hi=>by
        by_cases h1:i=j
        . subst h1;rw[if_pos rfl,if_pos (Nat.le_refl _)];exact Hq.out.symm
        . rw[if_neg h1];by_cases h2:j+1<=i
          . rw[if_pos h2,if_pos zo]
          . rw[if_neg h2,if_neg zo])
       rw[e]at h;exact h
     . exact λt ht=>ij zp (Hy9.out t ht)
    case measure=>simp[intOf]
  . obtain rfl:k=0:=by omega
    obtain rfl:i= -1:=by omega
    have HL:Hid (eN wr oB 0 M (X'/Y')):=λt ht=>by rw[Ho.out.cell,Nat.zero_add,iz _ _ _ ht,if_pos (Nat.zero_le _)]
    have hR:X'% (Y'*WW^0)=X'%Y':=by rw[Nat.pow_zero,Nat.mul_one]
    rw[hR]at Hl;have tP:Hid (X'%Y'<WW^(lx+2)):=Nat.lt_of_le_of_lt (Nat.mod_le _ _) (Nat.lt_of_lt_of_le ZR.out (Nat.pow_le_pow_right kG zo));have aft:=jY tP.out;have HR:=ar (show X'%Y'/2^s=X%Y by rw[wQ.out];exact Nat.mul_div_cancel _ (Nat.pow_pos zd));clear hi hR;go_wp2_with fail;have jJ:=Hb;clear Hb;have Hb:=hbz wr;obtain⟨d0,d1⟩:=Hd.out.c2;refine bV (λw'=>aF w' dB 0 (.slice (some ⟨lB,0,none⟩) (lx+2) (lx+2))) (λi=>Nat.blt i 100000) [(0,true),(2,true),(3,true),(5,true),(1,false),(4,false),(6,false),(7,false),(8,true),(9,true),(10,true)] zk zk rfl zk zc d0 ?_;iterate 4 (refine pT rfl rfl ?_)
    refine aR rfl rfl (λK hK=>?_);go_simp;with_reducible refine(AB oB 0 M M (X'/Y') _ zo (Nat.le_refl _) (HL.out.below (by first|exact Hb.out|exact Below.drew Hb.out)) HQM.out).mono ?_
    rintro e y1 ⟨rfl,hq⟩;have ag:Bw wr y1:=by first|exact hq|exact bo hq
    obtain⟨Hd,d0,d1⟩:=bi Hd ag;replace Hb:=az Hb ag;refine hK _ _ (λ_=>d0) ?_
    refine aR rfl rfl (λK hK=>?_);go_simp;with_reducible refine(aqm lB 0 (lx+2) (lx+2) (X'%Y') _ zo (Nat.le_refl _) ((Hl.out.lim _ (Nat.le_refl _)).below (by first|exact Hb.out|exact Below.drew Hb.out)) tP.out).mono ?_
    rintro e y2 ⟨rfl,hq⟩;have ag:Bw y1 y2:=by first|exact hq|exact bo hq
    obtain⟨Hd,d0,d1⟩:=bi Hd ag;replace Hb:=az Hb ag;refine hK _ _ (λ_=>d0) ?_
    refine aR rfl rfl (λK hK=>?_);go_simp;with_reducible refine(aqV lB (ln (X'%Y')) (lx+2) (X'%Y') s _ zo aft hs ((Hl.out.lim _ aft).below (by first|exact Hb.out|exact Below.drew Hb.out)) (fC _)).mono ?_
    rintro e y3 ⟨a,k,c2,rfl,⟨qL,qc,qk,qv⟩,hq⟩;have ag:Bw y2 y3:=by first|exact hq|exact bo hq
    obtain⟨Hd,d0,d1⟩:=bi Hd ag;replace Hb:=az Hb ag;refine hK _ _ (λ_=>d0) ?_
    refine aR rfl rfl (λK hK=>?_);go_simp;with_reducible refine(aiR a k c2 (X'%Y'/2^s) _ zo qc qL qv).mono ?_
    rintro e y4 ⟨rfl,hq⟩;have ag:Bw y3 y4:=by first|exact hq|exact bo hq
    obtain⟨Hd,d0,d1⟩:=bi Hd ag;replace Hb:=az Hb ag;refine hK _ _ (λ_=>d0) ?_
    iterate 3 (refine pT rfl rfl ?_)
    simp only[bu];go_wp2;refine bodyPost_ret (v:=.tuple #[ai (nt (X/Y)),ai (nt (X%Y)),aj true]) (by have h1:=Re.out;have h2:=HR.out;simp[results,Tryz.results180,go_sem,h1,h2]) rfl ⟨rfl,aO jJ.out Hb.out⟩
inductive PT where
 |lin (p:List (Nat×Bool))
 |rd (x:Nat) (t:PT)
 |br (i j:Nat) (t1 t2:PT)
 |tr (i j k:Nat) (t1 t2 t3:PT)
def PT.size :PT->Nat
 | .lin p=>p.length
 | .rd _ t=>t.size+1
 | .br _ _ t1 _=>t1.size+1
 | .tr _ _ _ t1 _ _=>t1.size+1
section
variable {P:Program} {md:Region.Mode} {ops:Array Oper} {Q:Exit->Act->World->Prop} {S:World->Prop} {J:Nat->Bool}
def uX (md:Region.Mode)(ops:Array Oper)(J:Nat->Bool):PT->Array Bool->Bool
 | .lin p,listed=>ym md ops J p listed
 | .rd x t,listed=>(Region.ready md ops listed).contains x&&Region.free md ops listed x&&waits md ops J x&&uX md ops J t (listed.setIfInBounds x true)
 | .br i j t1 t2,listed=>Region.ready md ops listed==[i,j]&&t1.size==t2.size&&J i&&J j&&uX md ops J t1 (listed.setIfInBounds i true)&&uX md ops J t2 (listed.setIfInBounds j true)
 | .tr i j k t1 t2 t3,listed=>Region.ready md ops listed==[i,j,k]&&t1.size==t2.size&&t1.size==t3.size&&uX md ops J t1 (listed.setIfInBounds i true)&&uX md ops J t2 (listed.setIfInBounds j true)&&uX md ops J t3 (listed.setIfInBounds k true)
def oY (P:Program)(ops:Array Oper)(Q:Exit->Act->World->Prop)(S:World->Prop)(J:Nat->Bool):PT->Act->World->Prop
 | .lin p,a,w=>bu P ops Q S J p a w
 | .rd x t,a,w=>∃o v,ops[x]?=some o/\YieldsIf P ops S o v a/\oY P ops Q S J t (a.put o.dst v) w
 | .br i j t1 t2,a,w=>wpOp P ops Q i (λa1 w1=>S w1/\oY P ops Q S J t1 a1 w1) a w/\wpOp P ops Q j (λa1 w1=>S w1/\oY P ops Q S J t2 a1 w1) a w
 | .tr i j k t1 t2 t3,a,w=>wpOp P ops Q i (λa1 w1=>S w1/\oY P ops Q S J t1 a1 w1) a w/\wpOp P ops Q j (λa1 w1=>S w1/\oY P ops Q S J t2 a1 w1) a w/\wpOp P ops Q k (λa1 w1=>S w1/\oY P ops Q S J t3 a1 w1) a w
def aAw (hs:Region.noSelect ops=true)(hQ:∀(o:Oper) c a v w,Q (.panic c) (a.put o.dst v) w->Q (.panic c) a w)(t:PT):
 ∀(listed:Array Bool) (a:Act) (w:World),Closed md ops listed->uX md ops J t listed=true->S w->oY P ops Q S J t a w->tJ P md ops Q S J t.size listed a w:=by
 induction t with
 |lin p=>intro listed a w hc hok hS h;exact Qq hs hQ p _ _ _ hc hok (λ_=>hS) h
 | br i j t1 t2 ih1 ih2=>
   intro listed a w hc hok _ h;simp only[uX,Bool.and_eq_true,beq_iff_eq]at hok;obtain⟨⟨⟨⟨⟨h1,hsz⟩,_⟩,_⟩,h2⟩,h3⟩:=hok;have mi:i∈Region.ready md ops listed:=by rw[h1];simp
   have mj:j∈Region.ready md ops listed:=by rw[h1];simp
   refine⟨λh0=>(by rw[h1]at h0;cases h0),λk hk=>?_⟩;rw[h1]at hk;simp only[List.mem_cons,List.not_mem_nil,or_false]at hk;rcases hk with rfl|rfl
   . exact wpOp_mono (λa1 w1 q=>⟨λ_=>q.1,ih1 _ _ _ (hc.list mi) h2 q.1 q.2⟩) h.1
   . refine wpOp_mono (λa1 w1 q=>⟨λ_=>q.1,?_⟩) h.2;have:=ih2 _ _ _ (hc.list mj) h3 q.1 q.2;rw[<-hsz]at this;exact this
 | tr i j k t1 t2 t3 ih1 ih2 ih3=>
   intro listed a w hc hok _ h;simp only[uX,Bool.and_eq_true,beq_iff_eq]at hok;obtain⟨⟨⟨⟨⟨h1,hs2⟩,hs3⟩,h2⟩,h3⟩,h4⟩:=hok;have mi:i∈Region.ready md ops listed:=by rw[h1];simp
   have mj:j∈Region.ready md ops listed:=by rw[h1];simp
   have mk:k∈Region.ready md ops listed:=by rw[h1];simp
   refine⟨λh0=>(by rw[h1]at h0;cases h0),λl hl=>?_⟩;rw[h1]at hl;simp only[List.mem_cons,List.not_mem_nil,or_false]at hl;rcases hl with rfl|rfl|rfl
   . exact wpOp_mono (λa1 w1 q=>⟨λ_=>q.1,ih1 _ _ _ (hc.list mi) h2 q.1 q.2⟩) h.1
   . refine wpOp_mono (λa1 w1 q=>⟨λ_=>q.1,?_⟩) h.2.1;have:=ih2 _ _ _ (hc.list mj) h3 q.1 q.2;rw[<-hs2]at this;exact this
   . refine wpOp_mono (λa1 w1 q=>⟨λ_=>q.1,?_⟩) h.2.2;have:=ih3 _ _ _ (hc.list mk) h4 q.1 q.2;rw[<-hs3]at this;exact this
 |rd x t ih=>intro listed a w hc hok hS h;simp only[uX,Bool.and_eq_true]at hok;obtain⟨⟨⟨h1,h2⟩,h3⟩,h4⟩:=hok;obtain⟨o,v,ho,hy,h⟩:=h;exact Lh ho (Region.noSelect_spec hs) (λc a w=>hQ o c a v w) h3 t.size listed a w hc h2 (by simpa using h1) hy hS (ih _ _ _ (hc.list (by simpa using h1)) h4 hS h)
def Qs {id:Nat}{a:Act}{w:World}(S:World->Prop)(J:Nat->Bool)(t:PT)(hm:P.follows .mixedOrders=true)(hs:Region.noSelect ops=true)
 (hl:t.size=ops.size) (hok:uX .any ops J t (Array.replicate ops.size false)=true)
 (hQ:∀(o:Oper) c a v w,Q (.panic c) (a.put o.dst v) w->Q (.panic c) a w) (hS:S w.drew) (h:oY P ops Q S J t a w.drew):(Code.region id ops true).wp P Q a w:=by
 refine wp_region_any hm (Qr ops.size _ _ _ ?_ (S:=S) (J:=J));have:=aAw (md:=.any) (S:=S) (J:=J) hs hQ t (Array.replicate ops.size false) a w.drew (Closed.empty _) hok hS h;rw[hl]at this;exact this
def PO {x:Nat}{t:PT}{o:Oper}{v:Value}{a:Act}{w:World}(ho:ops.toList[x]?=some o)(hw:Region.wanted o (yielded ops a.tmps)=true)
 (hy:∀w',S w'->(execOp a.eval o).run P w'=.ok (.value v) w') (h:oY P ops Q S J t (a.put o.dst v) w):oY P ops Q S J (.rd x t) a w:=
 ⟨o,v,by rw[<-Array.getElem?_toList];exact ho,.inl ⟨hw,hy⟩,h⟩
def Kr {i j:Nat}{t1 t2:PT}{oi oj:Oper}{a:Act}{w:World}(hJi:J i=true)(hJj:J j=true)(hoi:ops.toList[i]?=some oi)(oH:ops.toList[j]?=some oj)(Wx:Region.wanted oi (yielded ops a.tmps)=true)(ER:Region.wanted oj (yielded ops a.tmps)=true)
 (h1:∀K:Act->World->Prop,(∀a' w',(J i=true->S w')->oY P ops Q S J t1 a' w'->K a' w')->oi.wp P a w K Q) (h2:∀K:Act->World->Prop,(∀a' w',(J j=true->S w')->oY P ops Q S J t2 a' w'->K a' w')->oj.wp P a w K Q):oY P ops Q S J (.br i j t1 t2) a w:=by
 rw[Array.getElem?_toList]at hoi oH;refine⟨?_,?_⟩
 . unfold wpOp;simp only[hoi,Wx,if_true];exact .inl (h1 _ (λa' w' q1 q2=>⟨q1 hJi,q2⟩))
 . unfold wpOp;simp only[oH,ER,if_true];exact .inl (h2 _ (λa' w' q1 q2=>⟨q1 hJj,q2⟩))
def Ks {t:PT}{a:Act}{W:World}(R:World->Prop)(hR:R W)(h:∀W',R W'->oY P ops Q S J t a W'):oY P ops Q S J t a W:=h W hR
def yn {p:List (Nat×Bool)}{a:Act}{w:World}(h:bu P ops Q S J p a w):oY P ops Q S J (.lin p) a w:=h
end
def kE (cs:List (Addr×Value))(w:World):Prop:=∀p∈cs,w.cell? p.1=some p.2
def kE.below {cs:List (Addr×Value)}{w w':World}(h:kE cs w)(hb:Bw w w'):kE cs w':=λp hp=>cell_later hb (h p hp)
def kE.hd {p:Addr×Value}{cs:List (Addr×Value)}{w:World}(h:kE (p::cs) w):w.cell? p.1=some p.2:=h p zm
def kE.tl {p:Addr×Value}{cs:List (Addr×Value)}{w:World}(h:kE (p::cs) w):kE cs w:=λq hq=>h q (by simp[hq])
def kE.alloc {cs:List (Addr×Value)}{w:World}(h:kE cs w)(o:Obj):kE cs (w.alloc o):=h.below zl
def kE.drew {cs:List (Addr×Value)}{w:World}(h:kE cs w):kE cs w.drew:=h
section
variable {P:Program} {md:Region.Mode} {ops:Array Oper} {Q:Exit->Act->World->Prop} {S:World->Prop} {J:Nat->Bool}
def GR (md:Region.Mode)(ops:Array Oper)(J:Nat->Bool)(es:List Nat)(D:Nat->List Nat)(last:List (Nat×Bool)):Nat->Array Bool->Bool
 |0,listed=>es.all (λk=>listed.getD k false)&&ym md ops J last listed
 |n+1,listed=>listed.size==ops.size&& !(Region.ready md ops listed).isEmpty&&(Region.ready md ops listed).all λk=>es.contains k&& !(listed.getD k false)&&decide (k<listed.size)&&(D k).all (λd=>es.contains d&&listed.getD d false)&&GR md ops J es D last n (listed.setIfInBounds k true)
def vJ (es:List Nat)(listed:Array Bool)(i:Nat):Bool:=es.contains i&&listed.getD i false
def aqU {es:List Nat}{listed:Array Bool}{k:Nat}(hk:es.contains k=true)(hl:k<listed.size):vJ es (listed.setIfInBounds k true)=λi=>i==k||vJ es listed i:=by
 funext i
 unfold vJ;by_cases h:i=k
 . subst h;simp only[beq_self_eq_true,Bool.true_or];rw[hk];simp[hl]
 . have h2:(i==k)=false:=by simpa using h
   rw[h2,Bool.false_or,getD_set_ne false (λe=>h e.symm)]
def aAu (hs:Region.noSelect ops=true)(hQ:∀(o:Oper) c a v w,Q (.panic c) (a.put o.dst v) w->Q (.panic c) a w)(es:List Nat)(D:Nat->List Nat)(last:List (Nat×Bool))(I:(Nat->Bool)->Act->World->Prop)
 (h2:∀dn a w,I dn a w->S w) (h3:∀k∈es,∀dn a w,dn k=false->(∀d∈D k,dn d=true)->I dn a w->wpOp P ops Q k (I λi=>i==k||dn i) a w) (h4:∀dn a w,(∀k∈es,dn k=true)->I dn a w->bu P ops Q S J last a w) (n:Nat):
 ∀(listed:Array Bool) (a:Act) (w:World),Closed md ops listed->GR md ops J es D last n listed=true->I (vJ es listed) a w->tJ P md ops Q S J (last.length+n) listed a w:=by
 induction n with
 |zero=>intro listed a w hc hok h;simp only[GR,Bool.and_eq_true,List.all_eq_true]at hok;exact Qq hs hQ last _ _ _ hc hok.2 (λ_=>h2 _ _ _ h) (h4 _ _ _ (λk hk=>by unfold vJ;rw[hok.1 k hk];simpa using hk) h)
 | succ n ih=>
   intro listed a w hc hok h;simp only[GR,Bool.and_eq_true,List.all_eq_true]at hok;obtain⟨⟨_,h5⟩,h6⟩:=hok;refine⟨λh0=>(by rw[h0]at h5;simp at h5),λk hk=>?_⟩;obtain⟨⟨⟨⟨q1,q2⟩,q3⟩,q4⟩,q5⟩:=h6 k hk;have q3':k<listed.size:=of_decide_eq_true q3;have hf:vJ es listed k=false:=by unfold vJ;rw[q1];simpa using q2
   refine wpOp_mono (λa1 w1 q=>⟨λ_=>h2 _ _ _ q,ih _ _ _ (hc.list hk) q5 ?_⟩) (h3 k (by simpa using q1) _ a w hf (λd hd=>by unfold vJ;rw[Bool.and_eq_true];exact q4 d hd) h);rw[aqU q1 q3'];exact q
def Kp (md:Region.Mode)(ops:Array Oper)(J:Nat->Bool)(es:List Nat)(D:Nat->List Nat)(last:List (Nat×Bool)):List Nat->Array Bool->Bool
 |[],listed=>es.all (λk=>!(listed.getD k false))&&GR md ops J es D last es.length listed
 |x::r,listed=>(Region.ready md ops listed).contains x&&Region.free md ops listed x&&waits md ops J x&&Kp md ops J es D last r (listed.setIfInBounds x true)
def aAt (P:Program)(ops:Array Oper)(Q:Exit->Act->World->Prop)(S:World->Prop)(J:Nat->Bool)(es:List Nat)(D:Nat->List Nat)(last:List (Nat×Bool))(a:Act)(w:World):Prop:=
 ∃I:(Nat->Bool)->Act->World->Prop,I (λ_=>false) a w/\(∀dn a w,I dn a w->S w)/\(∀k∈es,∀dn a w,dn k=false->(∀d∈D k,dn d=true)->I dn a w->wpOp P ops Q k (I λi=>i==k||dn i) a w)/\∀dn a w,(∀k∈es,dn k=true)->I dn a w->bu P ops Q S J last a w
def FE (P:Program)(ops:Array Oper)(Q:Exit->Act->World->Prop)(S:World->Prop)(J:Nat->Bool)(es:List Nat)(D:Nat->List Nat)(last:List (Nat×Bool)):List Nat->Act->World->Prop
 |[],a,w=>aAt P ops Q S J es D last a w
 |x::r,a,w=>∃o v,ops[x]?=some o/\YieldsIf P ops S o v a/\FE P ops Q S J es D last r (a.put o.dst v) w
def aAv (hs:Region.noSelect ops=true)(hQ:∀(o:Oper) c a v w,Q (.panic c) (a.put o.dst v) w->Q (.panic c) a w)(es:List Nat)(D:Nat->List Nat)(last:List (Nat×Bool))(r:List Nat):
 ∀(listed:Array Bool) (a:Act) (w:World),Closed md ops listed->Kp md ops J es D last r listed=true->S w->FE P ops Q S J es D last r a w->tJ P md ops Q S J (last.length+es.length+r.length) listed a w:=by
 induction r with
 | nil=>
   intro listed a w hc hok hS h;simp only[Kp,Bool.and_eq_true,List.all_eq_true]at hok;obtain⟨I,h1,h2,h3,h4⟩:=h;have e:vJ es listed=λ_=>false:=by
    funext i
    unfold vJ;by_cases hi:es.contains i=true
    . have:=hok.1 i (by simpa using hi);rw[hi];simpa using this
    . simp only[Bool.not_eq_true]at hi;rw[hi];rfl
   exact aAu hs hQ es D last I h2 h3 h4 es.length listed a w hc hok.2 (by rw[e];exact h1)
 |cons x r ih=>intro listed a w hc hok hS h;simp only[Kp,Bool.and_eq_true]at hok;obtain⟨⟨⟨h1,h2⟩,h3⟩,h4⟩:=hok;obtain⟨o,v,ho,hy,h⟩:=h;exact Lh ho (Region.noSelect_spec hs) (λc a w=>hQ o c a v w) h3 (last.length+es.length+r.length) listed a w hc h2 (by simpa using h1) hy hS (ih _ _ _ (hc.list (by simpa using h1)) h4 hS h)
def aAC {id:Nat}{a:Act}{w:World}(S:World->Prop)(J:Nat->Bool)(es:List Nat)(D:Nat->List Nat)(last:List (Nat×Bool))(r:List Nat)(hm:P.follows .mixedOrders=true)(hs:Region.noSelect ops=true)
 (hl:last.length+es.length+r.length=ops.size) (hok:Kp .any ops J es D last r (Array.replicate ops.size false)=true)
 (hQ:∀(o:Oper) c a v w,Q (.panic c) (a.put o.dst v) w->Q (.panic c) a w) (hS:S w.drew) (h:FE P ops Q S J es D last r a w.drew):(Code.region id ops true).wp P Q a w:=by
 refine wp_region_any hm (Qr ops.size _ _ _ ?_ (S:=S) (J:=J));have:=aAv (md:=.any) (S:=S) (J:=J) hs hQ es D last r (Array.replicate ops.size false) a w.drew (Closed.empty _) hok hS h;rw[hl]at this;exact this
def aw0 {x:Nat}{es:List Nat}{D:Nat->List Nat}{last:List (Nat×Bool)}{r:List Nat}{o:Oper}{v:Value}{a:Act}{w:World}(ho:ops.toList[x]?=some o)(hw:Region.wanted o (yielded ops a.tmps)=true)
 (hy:∀w',S w'->(execOp a.eval o).run P w'=.ok (.value v) w') (h:FE P ops Q S J es D last r (a.put o.dst v) w):FE P ops Q S J es D last (x::r) a w:=
 ⟨o,v,by rw[<-Array.getElem?_toList];exact ho,.inl ⟨hw,hy⟩,h⟩
def awZ {es:List Nat}{D:Nat->List Nat}{last:List (Nat×Bool)}{a:Act}{w:World}(I:Act->(Nat->Bool)->Act->World->Prop)(h1:I a (λ_=>false) a w)(h2:∀dn a' w',I a dn a' w'->S w')
 (h3:∀k∈es,∀dn a' w',dn k=false->(∀d∈D k,dn d=true)->I a dn a' w'->wpOp P ops Q k (I a λi=>i==k||dn i) a' w') (h4:∀dn a' w',(∀k∈es,dn k=true)->I a dn a' w'->bu P ops Q S J last a' w'):FE P ops Q S J es D last [] a w:=
 ⟨I a,h1,h2,h3,h4⟩
def Fh {k:Nat}{o:Oper}{a:Act}{w:World}{R:Act->World->Prop}(ho:ops.toList[k]?=some o)(hw:Region.wanted o (yielded ops a.tmps)=true)(h:∀K:Act->World->Prop,(∀a' w',R a' w'->K a' w')->o.wp P a w K Q):wpOp P ops Q k R a w:=by rw[Array.getElem?_toList]at ho;unfold wpOp;simp only[ho,hw,if_true];exact .inl (h _ (λa' w' h=>h))
def Fp (a:Act)(k:Nat):a.put (some k) (a.tmps.getD k undef)=a:=by
 unfold Act.put;have:a.tmps.setIfInBounds k (a.tmps.getD k undef)=a.tmps:=by
  apply Array.ext
  . simp
  . intro i h1 h2;rw[Array.getElem_setIfInBounds];split
    . rename_i e;subst e;simp[h2]
    . rfl
 cases a
 simp only at this⊢;rw[this]
end
def bJ {P:Program}{ops:Array Oper}{Q:Exit->Act->World->Prop}{S:World->Prop}{J:Nat->Bool}{i:Nat}{rest:List (Nat×Bool)}{o:Oper}{a:Act}{w:World}(ho:ops.toList[i]?=some o)(hw:Region.wanted o (yielded ops a.tmps)=false)
 (h:bu P ops Q S J rest (a.put o.dst undef) w):bu P ops Q S J ((i,true)::rest) a w:=
 ⟨o,undef,by rw[<-Array.getElem?_toList];exact ho,.inr ⟨hw,rfl⟩,h⟩
def XJ {P:Program}{ops:Array Oper}{Q:Exit->Act->World->Prop}{S:World->Prop}{J:Nat->Bool}{i:Nat}{rest:List (Nat×Bool)}{o:Oper}{a:Act}{w:World}(ho:ops.toList[i]?=some o)(hw:Region.wanted o (yielded ops a.tmps)=false)
 (hS:J i=true->S w) (h:bu P ops Q S J rest (a.put o.dst undef) w):bu P ops Q S J ((i,false)::rest) a w:=by
 show wpOp P ops Q i _ a w
 rw[Array.getElem?_toList]at ho;unfold wpOp;simp only[ho,hw];exact⟨hS,h⟩
def dW (A w:World):Prop:=Bw A w
def dW.below {A w w':World}(h:dW A w)(hb:Bw w w'):dW A w':=aO h hb
def dW.alloc {A w:World}(h:dW A w)(o:Obj):dW A (w.alloc o):=h.below zl
def dW.drew {A w:World}(h:dW A w):dW A w.drew:=Below.drew h
section
variable {P:Program} {md:Region.Mode} {ops:Array Oper} {Q:Exit->Act->World->Prop} {S:World->Prop} {J:Nat->Bool}
def aAz {j:Nat}{oi oj:Oper}{v:Value}(hj:ops[j]?=some oj)(hap:oi.apart ops oj=true)(hsj:∀cs b,oj.op≠ .select cs b)
 (hQ:∀c a w,Q (.panic c) a w->Q (.panic c) (a.put oi.dst v) w) {K:Act->World->Prop} {a:Act} {w:World} (h:wpOp P ops Q j K a w):
 wpOp P ops Q j (λa' w'=>∃a0,a'=a0.put oi.dst v/\K a0 w') (a.put oi.dst v) w:=by
 obtain⟨h1,h2,h3⟩:=Oper.apart_spec hap;unfold wpOp at*;simp only[hj]at*;rw[wanted_put oj a oi.dst v h1];split
 . rename_i hw
   simp only[hw,if_true]at h;rcases h with h|⟨hasks,atc⟩;case inr=>exact .inr ⟨by unfold Oper.asks at*;rw[execOp_put oj hsj a oi.dst v h1];exact hasks,atc⟩
   refine .inl ?_;unfold Oper.wp at*;rw[execOp_put oj hsj a oi.dst v h1];generalize (execOp a.eval oj).run P w=r at*;cases r with
   | ok n w'=>
     cases n<;>simp only[Oper.upon]at h⊢
     case value u=>exact⟨a.put oj.dst u,Act.put_comm a v u h2,h⟩
     case skip=>exact⟨a.put oj.dst undef,Act.put_comm a v undef h2,h⟩
     case defer d=>exact⟨_,by rw[Act.put_defers,Act.put_comm _ v undef h2],h⟩
     case enter f args=>
      refine Calls.mono h λe w'' he=>?_;cases e with
      |returned u=>exact⟨a.put oj.dst u,Act.put_comm a v u h2,he⟩
      |panicked c=>exact hQ _ _ _ he
      |outgrown=>exact he
     case row row args=>exact Rows.mono h λu w'' he=>⟨a.put oj.dst u,Act.put_comm a v u h2,he⟩
   | halt x w'=>
     cases x<;>simp only[Oper.upon]at h⊢
     case panic u=>exact hQ _ _ _ h
 . rename_i hw
   simp only[hw]at h;exact⟨a.put oj.dst undef,Act.put_comm a v undef h2,h⟩
def Kq (md:Region.Mode)(ops:Array Oper)(J:Nat->Bool)(j:Nat)(oj:Oper)(last:List (Nat×Bool)):List (Nat×Bool)->Array Bool->Bool
 |[],listed=>Region.ready md ops listed==[j]&&ym md ops J last (listed.setIfInBounds j true)
 | (i,b)::r,listed=>(match ops[i]? with|some o=>oj.apart ops o|none=>false)&&(if b then(Region.ready md ops listed).contains i&&Region.free md ops listed i&&(Region.ready md ops (listed.setIfInBounds j true)).contains i&&Region.free md ops (listed.setIfInBounds j true) i&&waits md ops J i
  else(Region.ready md ops listed).all (λk=>k==i||k==j)&&(Region.ready md ops listed).contains i&&(Region.ready md ops listed).contains j&&Region.ready md ops (listed.setIfInBounds j true)==[i])&&Kq md ops J j oj last r (listed.setIfInBounds i true)
def wH (P:Program)(ops:Array Oper)(Q:Exit->Act->World->Prop)(S:World->Prop)(L:Act->World->Prop):List (Nat×Bool)->Act->World->Prop
 |[],a,w=>L a w
 | (i,true)::r,a,w=>∃o v,ops[i]?=some o/\YieldsIf P ops S o v a/\wH P ops Q S L r (a.put o.dst v) w
 | (i,false)::r,a,w=>wpOp P ops Q i (λa1 w1=>Bw w w1/\∀w2,Bw w1 w2->S w2/\wH P ops Q S L r a1 w2) a w
def aAK {o:Oper}{v v':Value}{a:Act}{w:World}(h:YieldsIf P ops S o v a)(h':YieldsIf P ops S o v' a)(hS:S w):v=v':=by
 rcases h with⟨h1,h2⟩ |⟨h1,h2⟩<;>rcases h' with⟨h3,h4⟩ |⟨h3,h4⟩
 . have:=(h2 w hS).symm.trans (h4 w hS);simpa using this
 . rw[h1]at h3;cases h3
 . rw[h1]at h3;cases h3
 . rw[h2,h4]
def aAx (hs:Region.noSelect ops=true)(hQ:∀(o:Oper) c a v w,Q (.panic c) (a.put o.dst v) w->Q (.panic c) a w)(UH:∀(o:Oper) c a v w,Q (.panic c) a w->Q (.panic c) (a.put o.dst v) w)
 {j:Nat} {oj:Oper} (oH:ops[j]?=some oj) (hJ:J j=true) {ty:TypeId} {cs:List Value} (hal:∀(K:Act->World->Prop) a w,K (a.put oj.dst (.pointer (some ⟨w.heap.size,0,none⟩))) (w.alloc (.cells cs.toArray ty))->wpOp P ops Q j K a w)
 (last:List (Nat×Bool)) (n0:Nat) (p:List (Nat×Bool)):∀(listed:Array Bool) (a:Act),Closed md ops listed->Kq md ops J j oj last p listed=true->
 (∀b w,au w b ty cs->n0<=b->S w->Closed md ops (listed.setIfInBounds j true)->wH P ops Q S (λa w=>∀b,n0<=b->au w b ty cs->bu P ops Q S J last (a.put oj.dst (.pointer (some ⟨b,0,none⟩))) w) p a w->tJ P md ops Q S J (last.length+p.length) (listed.setIfInBounds j true) (a.put oj.dst (.pointer (some ⟨b,0,none⟩))) w)/\
 (∀w,n0<=w.heap.size->j∈Region.ready md ops listed->(∀w2,Bw w w2->S w2/\wH P ops Q S (λa w=>∀b,n0<=b->au w b ty cs->bu P ops Q S J last (a.put oj.dst (.pointer (some ⟨b,0,none⟩))) w) p a w2)->tJ P md ops Q S J (last.length+p.length+1) listed a w):=by
 obtain⟨L,hL⟩:∃L:Act->World->Prop,(λa w=>∀b,n0<=b->au w b ty cs->bu P ops Q S J last (a.put oj.dst (.pointer (some ⟨b,0,none⟩))) w)=L:=⟨_,rfl⟩;have hLa:∀a w,L a w->∀b,n0<=b->au w b ty cs->bu P ops Q S J last (a.put oj.dst (.pointer (some ⟨b,0,none⟩))) w:=λa w h=>by rw[<-hL]at h;exact h
 rw[hL];induction p with
 | nil=>
   intro listed a hc hok;simp only[Kq,Bool.and_eq_true,beq_iff_eq]at hok;have hA:∀b w,au w b ty cs->n0<=b->S w->Closed md ops (listed.setIfInBounds j true)->L a w->tJ P md ops Q S J last.length (listed.setIfInBounds j true) (a.put oj.dst (.pointer (some ⟨b,0,none⟩))) w:=
    λb w hb h0 hS hc2 h=>Qq hs hQ last _ _ _ hc2 hok.2 (λ_=>hS) (hLa _ _ h b h0 hb)
   refine⟨hA,λw h0 hj h=>⟨λh9=>(by rw[hok.1]at h9;cases h9),λk hk=>?_⟩⟩;rw[hok.1]at hk;obtain rfl:k=j:=by simpa using hk
   have h2:=h (w.alloc (.cells cs.toArray ty)) zl;exact hal _ _ _ ⟨λ_=>h2.1,hA _ _ (au.new _ _ _) h0 h2.1 (hc.list hj) h2.2⟩
 | cons x r ih=>
   obtain⟨i,bb⟩:=x;intro listed a hc hok;unfold Kq at hok;rw[Bool.and_eq_true,Bool.and_eq_true]at hok;obtain⟨⟨hap,h1⟩,h2⟩:=hok;cases ho:ops[i]? with
   |none=>rw[ho]at hap;cases hap
   |some o=>
   rw[ho]at hap;dsimp only at hap;obtain⟨a1,a2,a3⟩:=Oper.apart_spec hap;have hso:=λcs b=>Region.noSelect_spec hs i o cs b ho;cases bb with
   | true=>
     simp only[if_true,Bool.and_eq_true]at h1;obtain⟨⟨⟨⟨b1,b2⟩,b3⟩,b4⟩,b5⟩:=h1;have m1:i∈Region.ready md ops listed:=by simpa using b1
     have m2:i∈Region.ready md ops (listed.setIfInBounds j true):=by simpa using b3
     have hne:i≠j:=λe=>by
      subst e;have:=(mem_ready.1 m2).1;rcases Nat.lt_or_ge i listed.size with h'|h'
      . simp[h']at this
      . have:=(mem_ready.1 m1).1;simp[Array.getElem?_eq_none h']at this
     have hcm:=Array.setIfInBounds_comm true true (xs:=listed) hne;refine⟨λb w hb h0 hS hc2 h=>?_,λw h0 hj h=>?_⟩
     . obtain⟨o',v,ho',hy,h⟩:=h;rw[ho]at ho';obtain rfl:=Option.some.inj ho';have hy2:YieldsIf P ops S o v (a.put oj.dst (.pointer (some ⟨b,0,none⟩))):=hy.of_same (execOp_put o hso a oj.dst _ a1) (wanted_put o a oj.dst _ a1);refine Lh ho (Region.noSelect_spec hs) (λc a w=>hQ o c a v w) b5 (last.length+r.length) _ _ w hc2 b4 m2 hy2 hS ?_;rw[Act.put_comm a _ v a2,<-hcm];refine(ih _ _ (hc.list m1) h2).1 b w hb h0 hS ?_ h;rw[hcm];exact hc2.list m2
     . have hw:=h w (Below.refl _ _);obtain⟨hS,o',v,ho',hy,hw⟩:=hw;rw[ho]at ho';obtain rfl:=Option.some.inj ho';refine Lh ho (Region.noSelect_spec hs) (λc a w=>hQ o c a v w) b5 (last.length+r.length+1) _ _ w hc b2 m1 hy hS ?_;refine(ih _ _ (hc.list m1) h2).2 w h0 (ready_mono hj (Ne.symm hne)) (λw2 hb2=>?_);obtain⟨Er,o',v',ho',hy',h'⟩:=h w2 hb2;rw[ho]at ho';obtain rfl:=Option.some.inj ho';rw[aAK hy hy' Er];exact⟨Er,h'⟩
   | false=>
     simp only[Bool.false_eq_true,if_false,Bool.and_eq_true,beq_iff_eq,List.all_eq_true]at h1;obtain⟨⟨⟨c1,c2⟩,c3⟩,c4⟩:=h1;have m1:i∈Region.ready md ops listed:=by simpa using c2
     have m3:j∈Region.ready md ops listed:=by simpa using c3
     have m2:i∈Region.ready md ops (listed.setIfInBounds j true):=by rw[c4];simp
     have hne:i≠j:=λe=>by
      subst e;have:=(mem_ready.1 m2).1;rcases Nat.lt_or_ge i listed.size with h'|h'
      . simp[h']at this
      . have:=(mem_ready.1 m1).1;simp[Array.getElem?_eq_none h']at this
     have hcm:=Array.setIfInBounds_comm true true (xs:=listed) hne;have hA:∀b w,au w b ty cs->n0<=b->S w->Closed md ops (listed.setIfInBounds j true)->wH P ops Q S L ((i,false)::r) a w->tJ P md ops Q S J (last.length+r.length+1) (listed.setIfInBounds j true) (a.put oj.dst (.pointer (some ⟨b,0,none⟩))) w:=λb w hb h0 hS hc2 h=>by
      refine⟨λh9=>(by rw[c4]at h9;cases h9),λk hk=>?_⟩;rw[c4]at hk;obtain rfl:k=i:=by simpa using hk
      refine wpOp_mono (λa' w' q=>?_) (aAz (v:=.pointer (some ⟨b,0,none⟩)) ho hap hso (λc a w=>UH oj c a _ w) h);obtain⟨a0,rfl,q1,q2⟩:=q;obtain⟨q3,q4⟩:=q2 w' (Below.refl _ _);refine⟨λ_=>q3,?_⟩;rw[<-hcm];refine(ih _ _ (hc.list m1) h2).1 b w' (hb.below q1) h0 q3 ?_ q4;rw[hcm];exact hc2.list m2
     refine⟨hA,λw h0 hj h=>⟨λh9=>(by rw[h9]at m1;cases m1),λk hk=>?_⟩⟩;have hk2:=c1 k hk;simp only[Bool.or_eq_true,beq_iff_eq]at hk2;rcases hk2 with rfl|rfl
     . refine wpOp_mono (λa1 w1 q=>⟨λ_=>(q.2 w1 (Below.refl _ _)).1,?_⟩) (h w (Below.refl _ _)).2;exact(ih _ _ (hc.list m1) h2).2 w1 (Nat.le_trans h0 q.1.size) (ready_mono m3 (Ne.symm hne)) q.2
     . have h3:=h (w.alloc (.cells cs.toArray ty)) zl;exact hal _ _ _ ⟨λ_=>h3.1,hA _ _ (au.new _ _ _) h0 h3.1 (hc.list hj) h3.2⟩
def wI {id:Nat}{a:Act}{w:World}(S:World->Prop)(J:Nat->Bool)(j:Nat){oj:Oper}(ty:TypeId)(cs:List Value)(p last:List (Nat×Bool))(hm:P.follows .mixedOrders=true)(hs:Region.noSelect ops=true)
 (oH:ops[j]?=some oj) (hJ:J j=true) (hl:last.length+p.length+1=ops.size) (hok:Kq .any ops J j oj last p (Array.replicate ops.size false)=true) (hr:(Region.ready .any ops (Array.replicate ops.size false)).contains j=true)
 (hQ:∀(o:Oper) c a v w,Q (.panic c) (a.put o.dst v) w->Q (.panic c) a w) (UH:∀(o:Oper) c a v w,Q (.panic c) a w->Q (.panic c) (a.put o.dst v) w)
 (hal:∀(K:Act->World->Prop) a w,K (a.put oj.dst (.pointer (some ⟨w.heap.size,0,none⟩))) (w.alloc (.cells cs.toArray ty))->wpOp P ops Q j K a w)
 (h:∀w2,Bw w w2->S w2/\wH P ops Q S (λa w'=>∀b,w.heap.size<=b->au w' b ty cs->bu P ops Q S J last (a.put oj.dst (.pointer (some ⟨b,0,none⟩))) w') p a w2):(Code.region id ops true).wp P Q a w:=by
 refine wp_region_any hm (Qr ops.size _ _ _ ?_ (S:=S) (J:=J));have:=(aAx (md:=.any) (S:=S) (J:=J) hs hQ UH oH hJ hal last w.heap.size p (Array.replicate ops.size false) a (Closed.empty _) hok).2 w.drew (Nat.le_refl _) (by simpa using hr) (λw2 hb=>h w2 ((Below.refl _ _).drew.trans hb));rw[hl]at this;exact this
def ww {k:Nat}{o:Oper}{a:Act}{w:World}{R:Act->World->Prop}(ho:ops.toList[k]?=some o)(hw:Region.wanted o (yielded ops a.tmps)=true)(h:∀K:Act->World->Prop,(∀a' w',R a' w'->K a' w')->o.wp P a w K Q):wpOp P ops Q k R a w:=by rw[Array.getElem?_toList]at ho;unfold wpOp;simp only[ho,hw,if_true];exact .inl (h _ (λa' w' h=>h))
def kY {i:Nat}{L:Act->World->Prop}{r:List (Nat×Bool)}{o:Oper}{v:Value}{a:Act}{w:World}(ho:ops.toList[i]?=some o)(hw:Region.wanted o (yielded ops a.tmps)=true)
 (hy:∀w',S w'->(execOp a.eval o).run P w'=.ok (.value v) w') (h:wH P ops Q S L r (a.put o.dst v) w):wH P ops Q S L ((i,true)::r) a w:=
 ⟨o,v,by rw[<-Array.getElem?_toList];exact ho,.inl ⟨hw,hy⟩,h⟩
def ke {i:Nat}{L:Act->World->Prop}{r:List (Nat×Bool)}{o:Oper}{a:Act}{w:World}(ho:ops.toList[i]?=some o)(hw:Region.wanted o (yielded ops a.tmps)=true)
 (h:∀K:Act->World->Prop,(∀a' w',Bw w w'->(∀w2,Bw w w2->Bw w' w2->S w2/\wH P ops Q S L r a' w2)->K a' w')->o.wp P a w K Q):wH P ops Q S L ((i,false)::r) a w:=by
 show wpOp P ops Q i _ a w
 rw[Array.getElem?_toList]at ho;unfold wpOp;simp only[ho,hw,if_true];exact .inl (h _ (λa' w' h1 h2=>⟨h1,λw2 h3=>h2 w2 (aO h1 h3) h3⟩))
end
end Go.Proofs.YtnjfebkelecgaaaGreatDoor
