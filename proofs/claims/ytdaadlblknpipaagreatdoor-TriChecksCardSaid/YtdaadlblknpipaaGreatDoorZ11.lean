/- Small facts that many walks share: numbers in memory,windows,own rows. -/
import Derived.Test.YtdaadlblknpipaaGreatDoorZ9
import Derived.Test.YtdaadlblknpipaaGreatDoorZ10
import Derived.Test.YtdaadlblknpipaaGreatDoorZ7
import Derived.Carry
import Derived.Maps.AppendAt
import Derived.Maps.OwnIn
import Derived.Maps.Own
import Derived.Maps.Views
import Derived.Maps.Keyed
import Derived.Maps.OwnSet
import Derived.Shelf.Abstract
import Derived.Shelf.RegionOpen
import Derived.OwnWalkIn
import Derived.TacticsInMore
import Derived.LoopNIn
import Derived.LoopIn
import Derived.Lib.BufferWrite
import Derived.Deep.WholeRow
import Derived.Test.YtdaadlblknpipaaGreatDoorZ5
set_option linter.unusedVariables false
set_option linter.unusedSimpArgs false
set_option maxRecDepth 100000
set_option maxHeartbeats 16000000
namespace Go.Proofs.YtdaadlblknpipaaGreatDoor
open Go.RowKit
attribute [local go_sem ↓] Go.wp_at_zero Go.wp_at_succ
def hp (k:Nat):Dyadic:=Dyadic.ofIntWithPrec 1 k
theorem Pi (D:Dyadic)(k:Nat):az (ar (dN D),nt (dN D).natAbs,dE D+ -(k:Int))=D*hp k:=by
 have h:=bU D;unfold az canon at h;unfold az hp;simp only[fq]at h⊢;conv=>rhs;rw[<-h]
 rw[vW,Int.mul_one];congr 1;omega
theorem VO (k:Nat):Sm (k+1) (hp k):=by
 refine⟨2,?_,?_⟩
 . unfold hp;rw[<-ui 1 1 k];rfl
 . have:2^2<=2^(2* (k+1)):=Nat.pow_le_pow_right zd zo;omega
theorem Tryz.apl :(Tryz.prog.info? 30).map (λi=>(i.zero,i.size,i.bytes))=some (some (.agg #[.bool false,.string (bs []),.int .i64 0]),3,32):=by kernel_rfl
def dC (ds:List Dyadic):List Value:=ds.flatMap λd=>bo (canon d)
theorem aeh (ds:List Dyadic):(dC ds).length=ds.length*3:=iY _ 3 (λ_=>rfl) ds
theorem qA (a b:List Dyadic):dC (a++b)=dC a++dC b:=by unfold dC;rw[List.flatMap_append]
theorem ai9 {Y:Nat->Prop}{W W':World}{base:Nat}{e:TypeId}{size:Nat}{v:Value}{n:Nat}{xs:List Value}(h:W.ownsRow base e size v n xs)(hc:Chg Y W W')(hy:∀b,v.ownBlock=some b->¬Y b):W'.ownsRow base e size v n xs:=by
 refine⟨h.1,?_⟩;rcases h.2 with h1|⟨g,cap,cur,rfl,hb,hg,h2,h3,h4,h5⟩
 . exact .inl h1
 . exact .inr ⟨g,cap,cur,rfl,hb,(hc.block g (Array.getElem?_eq_some_iff.1 hg).1 (hy g rfl)).trans hg,h2,h3,h4,h5⟩
theorem di {W:World}{base:Nat}{e:TypeId}{size:Nat}{v:Value}{n:Nat}{xs:List Value}(h:W.ownsRow base e size v n xs):∃a cap,v=.slice a n cap/\At W a xs/\∀b o,a=some ⟨b,o,none⟩->base<=b:=by
 rcases h.2 with⟨rfl,rfl⟩ |⟨g,cap,cur,rfl,hb,hg,h2,h3,h4,h5⟩
 . refine⟨none,0,rfl,.inl ?_,λb o e=>by cases e⟩;have:=h.1;simpa using this
 . refine⟨_,cap,rfl,.inr ⟨g,0,rfl,λj hj=>?_⟩,λb o e=>by cases e;exact hb⟩;have:=h.cells (g:=g) rfl j (xs[j]) (by simp[hj]);rw[Nat.zero_add];have e2:((⟨g,0,none⟩:Addr).add j)=⟨g,j,none⟩:=by simp[Addr.add];omega
   rw[e2]at this;rw[this];simp[hj]
def aV (w:World)(b o:Nat)(cs:List Value):Prop:=∀j (h:j<cs.length),w.cell? ⟨b,o+j,none⟩=some cs[j]
theorem aV.cell {w:World}{b o:Nat}{cs:List Value}(h:aV w b o cs)(j:Nat)(hj:j<cs.length):w.cell? ⟨b,o+j,none⟩=some cs[j]:=h j hj
theorem aV.w1 {w:World}{b o:Nat}{x0:Value}(h:aV w b o [x0]):w.cell? ⟨b,o,none⟩=some x0:=h 0 zm
theorem aV.w2 {w:World}{b o:Nat}{x0 x1:Value}(h:aV w b o [x0,x1]):w.cell? ⟨b,o,none⟩=some x0/\w.cell? ⟨b,o+1,none⟩=some x1:=⟨h 0 zm,h 1 zm⟩
theorem aV.w3 {w:World}{b o:Nat}{x0 x1 x2:Value}(h:aV w b o [x0,x1,x2]):w.cell? ⟨b,o,none⟩=some x0/\w.cell? ⟨b,o+1,none⟩=some x1/\w.cell? ⟨b,o+2,none⟩=some x2:=⟨h 0 zm,h 1 zm,h 2 zm⟩
theorem aV.w4 {w:World}{b o:Nat}{x0 x1 x2 x3:Value}(h:aV w b o [x0,x1,x2,x3]):w.cell? ⟨b,o,none⟩=some x0/\w.cell? ⟨b,o+1,none⟩=some x1/\w.cell? ⟨b,o+2,none⟩=some x2/\w.cell? ⟨b,o+3,none⟩=some x3:=⟨h 0 zm,h 1 zm,h 2 zm,h 3 zm⟩
theorem aV.below {w w':World}{b o:Nat}{cs:List Value}(h:aV w b o cs)(hb:Bw w w'):aV w' b o cs:=λj hj=>cell_later hb (h j hj)
theorem kW {w w':World}{b o:Nat}{cs:List Value}(h:Hid (aV w b o cs))(k:Bw w w'):Hid (aV w' b o cs):=h.out.below k
theorem aV.api {w:World}{b o:Nat}{cs:List Value}(h:aV w b o cs)(a:Addr)(hne:b≠a.block)(u:Value):aV (w.setCell a u) b o cs:=λj hj=>fC hne (h j hj)
theorem WJ {w w':World}{b c p o:Nat}{cs vs:List Value}(h:Hid (aV w b c cs))(k:bz w p o vs w')(n:p≠b):Hid (aV w' b c cs):=by
 have g:∀(vs:List Value) (o:Nat) (w:World),aV w b c cs->aV (uq p o vs w) b c cs:=by
  intro vs;induction vs with
  |nil=>intro o w h;exact h
  |cons v vs ih=>intro o w h;exact ih _ _ (h.api ⟨p,o,none⟩ (λe=>n e.symm) v)
 rcases k with rfl|rfl
 . exact g vs o _ h.out
 . exact g vs o w.drew h.out
theorem SL (ds:List Dyadic)(i:Nat)(D:Dyadic):(((dC ds).set (i*3) (.bool (ar (dN D)))).set (i*3+1) (.string (bs (nt (dN D).natAbs)))).set (i*3+2) (.int .i64 (dE D))=dC (ds.set i D):=by
 induction ds generalizing i with
 |nil=>simp[dC]
 | cons x ds ih=>
   have e:∀y:Dyadic,∀zs,dC (y::zs)=.bool (ar (dN y))::.string (bs (nt (dN y).natAbs))::.int .i64 (dE y)::dC zs:=λy zs=>rfl;cases i with
   |zero=>rw[e];rfl
   |succ i=>rw[List.set_cons_succ,e,e,<-ih i,show(i+1) *3=i*3+1+1+1 by omega];rfl
theorem qC (ds:List Dyadic):dC ds=(ds.map canon).flatMap bo:=by unfold dC;rw[List.flatMap_map]
theorem fF {P:Program}{fn:Func}{R:Ending->World->Prop}{e:Exit}{a:Act}{W:World}(S:World->Prop)(hS:S W)(h:∀W',S W'->bodyPost P fn R e a W'):bodyPost P fn R e a W:=h W hS
theorem ak.not_row {W:World}{B:Nat}{t e:TypeId}{cs:List Value}(h:ak W B t cs)(hte:t≠e){base size k:Nat}{v:Value}{xs:List Value}(hr:W.ownsRow base e size v k xs):some B≠v.ownBlock:=by
 rcases hr.2 with⟨rfl,_⟩ |⟨g,cap,cur,rfl,_,hgb,_⟩
 . simp[Value.ownBlock]
 . intro e';simp only[Value.ownBlock,Option.some.injEq]at e';subst e';have:=h.symm.trans hgb;simp at this;exact hte this.2
theorem ak.row {W W':World}{B:Nat}{t e:TypeId}{cs:List Value}(h:ak W B t cs)(hte:t≠e){base size k:Nat}{v:Value}{xs:List Value}(hr:W.ownsRow base e size v k xs)(hg:W.grownBy W' v.ownBlock):ak W' B t cs:=
 h.grown hg (h.not_row hte hr)
theorem ownsRow_below {W W':World}{base:Nat}{e:TypeId}{size:Nat}{v:Value}{n:Nat}{xs:List Value}(h:W.ownsRow base e size v n xs)(hb:Bw W W'):W'.ownsRow base e size v n xs:=by refine ai9 (Y:=λ_=>False) h (Chg.of_below hb) (λ_ _ h=>h)
theorem cJ {W:World}{base:Nat}{e:TypeId}{size:Nat}{v:Value}{n:Nat}{xs:List Value}(h:W.ownsRow base e size v n xs):∀k,v.ownBlock=some k->base<=k:=λk hk=>(h.lt k hk).1
theorem fS {w:World}{b o:Nat}{x y z:Value}(h0:w.cell? ⟨b,o,none⟩=some x)(h1:w.cell? ⟨b,o+1,none⟩=some y)(h2:w.cell? ⟨b,o+2,none⟩=some z):aV w b o [x,y,z]:=by
 intro j hj;rcases j with _|_|_|j
 . exact h0
 . exact h1
 . exact h2
 . simp at hj;omega
theorem fM {W:World}{b:Nat}{t:TypeId}{cs:List Value}(h:ak W b t cs):∀j u,cs[j]?=some u->W.cell? ((⟨b,0,none⟩:Addr).add j)=some u:=by
 intro j u hj;have e2:((⟨b,0,none⟩:Addr).add j)=⟨b,j,none⟩:=by simp[Addr.add];omega
 rw[e2,h.cell];exact hj
theorem At.num {W:World}{a:Option Addr}{cC:List Raw}(h:At W a (cC.flatMap bo))(k:Nat)(hk:k<cC.length){s:Bool}{m:List UInt8}{e:Int}(hx:cC[k]=(s,m,e)):
 ∃b o,a=some ⟨b,o,none⟩/\W.cell? ⟨b,o+k*3,none⟩=some (.bool s)/\W.cell? ⟨b,o+k*3+1,none⟩=some (.string (bs m))/\W.cell? ⟨b,o+k*3+2,none⟩=some (.int .i64 e):=by
 obtain⟨b,o,ha,hc⟩:=h.elem (f:=bo) (sz:=3) (λ_=>rfl) zd k hk;rw[hx]at hc;exact⟨b,o,ha,by simpa[bo]using hc 0 zd,by simpa[bo]using hc 1 zd,by simpa[bo]using hc 2 zd⟩
theorem Tt {B:Nat}{cs:List Dyadic}(h:∀c∈cs,Sm B c)(k:Nat):Sm B (cs.getD k 0):=by
 by_cases hk:k<cs.length
 . have:cs.getD k 0=cs[k]:=by simp[hk]
   rw[this];exact h _ (List.getElem_mem hk)
 . have:cs.getD k 0=0:=by simp[List.getD_eq_getElem?_getD,List.getElem?_eq_none (by omega:cs.length<=k)]
   rw[this];exact Sm.zero B
def idxFrom (p:Value->Bool):List Value->Nat->Int
 |[],_=>-1
 |v::l,k=>if p v then(k:Int)else idxFrom p l (k+1)
theorem NB (p:Value->Bool)(l:List Value)(k n:Nat)(h:n<l.length):idxFrom p (l.drop n) k=if p l[n]then(k:Int)else idxFrom p (l.drop (n+1)) (k+1):=by rw[List.drop_eq_getElem_cons h];rfl
theorem Wy (p:Value->Bool)(l:List Value)(k:Nat):decide (0<=idxFrom p l k)=l.any p:=by
 induction l generalizing k with
 |nil=>rfl
 | cons v l ih=>
   unfold idxFrom;rw[List.any_cons];by_cases h:p v=true
   . rw[if_pos h,h,Bool.true_or];simp
   . rw[if_neg h,ih];simp[h]
theorem agZ (a:Option Addr)(n cap:Nat)(vals:List Value)(gf:Nat)(lb:Array Value)(p:Value->Bool)(w:World)(hn:vals.length=n)(hl:n<=1099511627776)(ha:At w a vals)
 (eg:∀args w,(callFunc gf args).run Tryz.prog w=.ok (.enter gf args) w)
 (hcl:∀v∈vals,∀W,Bw w W->Calls Tryz.prog gf (#[v]++lb) W λe w'=>e=.returned (.bool (p v))/\Bw W w'):
 Calls Tryz.prog 123 #[.slice a n cap,.func (.func gf) #[] lb] w λe w'=>e=.returned (.int .i64 (idxFrom p vals 0))/\Bw w w':=by
 obtain⟨Hn,Ha,iG,qh⟩:=dW hn ha hcl eg;clear hn ha hcl eg;have Hb:Hid (Bw w w):=Below.refl _ _;go_enter Tryz.func123,Tryz.ntmps123;go_wp2_with fail;go_loopw[5,8] (λ_ i wr=>∃k:Nat,k<=n/\i=.int .i64 (k:Int)/\idxFrom p vals 0=idxFrom p (vals.drop k) k/\Bw w wr) (λ_ i _=>n-(intOf i).toNat);case atStart=>exact⟨0,Nat.zero_le _,rfl,rfl,Hb.out⟩
 case round=>
  clear Hb;obtain⟨k,hk,rfl,gZ,pb⟩:=hrel;obtain⟨mV,Hb⟩:=aL gZ pb;clear gZ pb;by_cases hlt:k<n
  . have bj:k<vals.length:=by rw[Hn.out];exact hlt
    obtain⟨b,o,hab,hcs⟩:=(Ha.out.below Hb.out).get (by intro h;rw[h]at bj;simp at bj);obtain⟨v,hv⟩:=aB (vals[k]);have hc0:wr.cell? ⟨b,o+k,none⟩=some v:=by rw[hcs k bj,List.getElem?_eq_getElem bj,hv]
    have bD:=fE n cap k (k:Int) hab hlt rfl;rw[Nat.mul_one]at bD;have hcall:=iG.out v (by rw[<-hv];exact List.getElem_mem bj) wr Hb.out;have hstep:=NB p vals k k bj;rw[hv,<-mV.out]at hstep;obtain⟨fU,ll⟩:=aL hstep hcall;have tj:=qh.out;clear hcs hab hv hstep hcall;go_wp2_with fail;refine ll.out.mono ?_;rintro e w1 ⟨rfl,hb1⟩;replace Hb:=ah (aJ Hb.out hb1);clear hb1 hc0 bD tj;obtain⟨t,ht⟩:=aB (p v);rw[ht]at fU⊢;clear ht;cases t with
    |true=>go_wp2;refine bodyPost_ret (results_tmp rfl _ _ _) rfl ⟨?_,Hb.out⟩;have h:=fU.out;rw[if_pos (by trivial)]at h;rw[h];rfl
    | false=>
      go_wp2;go_roundw;case rel=>exact⟨k+1,by omega,by go_num,by have h:=fU.out;rw[if_neg zd]at h;exact h,Hb.out⟩
      case measure=>simp[intOf];omega
  . obtain rfl:k=n:=by omega
    go_wp2;refine bodyPost_ret (results_tmp rfl _ _ _) rfl ⟨?_,Hb.out⟩;have h:=mV.out;rw[List.drop_of_length_le (by rw[Hn.out];exact Nat.le_refl _)]at h;rw[h];rfl
theorem ad6 (a:Option Addr)(n cap:Nat)(vals:List Value)(gf:Nat)(lb:Array Value)(p:Value->Bool)(w:World)(hn:vals.length=n)(hl:n<=1099511627776)(ha:At w a vals)
 (eg:∀args w,(callFunc gf args).run Tryz.prog w=.ok (.enter gf args) w)
 (hcl:∀v∈vals,∀W,Bw w W->Calls Tryz.prog gf (#[v]++lb) W λe w'=>e=.returned (.bool (p v))/\Bw W w'):
 Calls Tryz.prog 85 #[.slice a n cap,.func (.func gf) #[] lb] w λe w'=>e=.returned (.bool (vals.any p))/\Bw w w':=by
 have h1:=agZ a n cap vals gf lb p w hn hl ha eg hcl;rw[<-Wy p vals 0];generalize idxFrom p vals 0=i at*;have H1:=ah h1;clear h1 hcl eg ha hn;have Hb:Hid (Bw w w):=Below.refl _ _;go_enter Tryz.func85,Tryz.ntmps85;go_wp2_with fail;refine(H1.out).mono ?_;rintro e w1 ⟨rfl,ae⟩;replace Hb:=au Hb ae;clear ae;go_wp2;refine bodyPost_ret (v:=.bool (decide (0<=i))) (by simp[results,Tryz.results85,go_sem]) rfl ⟨rfl,?_⟩;(repeat first|exact Hb.out| (refine Below.setCell ?_ (by have:=Hb.out.size;first| (dsimp only;omega) | (show _<=_;omega) | (simp<;>omega)) _) | (refine Below.alloc ?_ zt _) |refine Below.drew ?_)
theorem agY (a:Option Addr)(n cap:Nat)(vals:List Value)(gf:Nat)(lb:Array Value)(p:Value->Bool)(w:World)(hn:vals.length=n)(hl:n<=1099511627776)(ha:At w a vals)
 (eg:∀args w,(callFunc gf args).run Tryz.prog w=.ok (.enter gf args) w)
 (hcl:∀v∈vals,∀W,Bw w W->Calls Tryz.prog gf (#[v]++lb) W λe w'=>e=.returned (.bool (p v))/\Bw W w'):
 Calls Tryz.prog 155 #[.slice a n cap,.func (.func gf) #[] lb] w λe w'=>e=.returned (.int .i64 (idxFrom p vals 0))/\Bw w w':=by
 obtain⟨Hn,Ha,iG,qh⟩:=dW hn ha hcl eg;clear hn ha hcl eg;have Hb:Hid (Bw w w):=Below.refl _ _;go_enter Tryz.func155,Tryz.ntmps155;go_wp2_with fail;go_loopw[5,8] (λ_ i wr=>∃k:Nat,k<=n/\i=.int .i64 (k:Int)/\idxFrom p vals 0=idxFrom p (vals.drop k) k/\Bw w wr) (λ_ i _=>n-(intOf i).toNat);case atStart=>exact⟨0,Nat.zero_le _,rfl,rfl,Hb.out⟩
 case round=>
  clear Hb;obtain⟨k,hk,rfl,gZ,pb⟩:=hrel;obtain⟨mV,Hb⟩:=aL gZ pb;clear gZ pb;by_cases hlt:k<n
  . have bj:k<vals.length:=by rw[Hn.out];exact hlt
    obtain⟨b,o,hab,hcs⟩:=(Ha.out.below Hb.out).get (by intro h;rw[h]at bj;simp at bj);obtain⟨v,hv⟩:=aB (vals[k]);have hc0:wr.cell? ⟨b,o+k,none⟩=some v:=by rw[hcs k bj,List.getElem?_eq_getElem bj,hv]
    have bD:=ug n cap k (k:Int) hab hlt rfl;rw[Nat.mul_one]at bD;have hcall:=iG.out v (by rw[<-hv];exact List.getElem_mem bj) wr Hb.out;have hstep:=NB p vals k k bj;rw[hv,<-mV.out]at hstep;obtain⟨fU,ll⟩:=aL hstep hcall;have tj:=qh.out;clear hcs hab hv hstep hcall;go_wp2_with fail;refine ll.out.mono ?_;rintro e w1 ⟨rfl,hb1⟩;replace Hb:=ah (aJ Hb.out hb1);clear hb1 hc0 bD tj;obtain⟨t,ht⟩:=aB (p v);rw[ht]at fU⊢;clear ht;cases t with
    |true=>go_wp2;refine bodyPost_ret (results_tmp rfl _ _ _) rfl ⟨?_,Hb.out⟩;have h:=fU.out;rw[if_pos (by trivial)]at h;rw[h];rfl
    | false=>
      go_wp2;go_roundw;case rel=>exact⟨k+1,by omega,by go_num,by have h:=fU.out;rw[if_neg zd]at h;exact h,Hb.out⟩
      case measure=>simp[intOf];omega
  . obtain rfl:k=n:=by omega
    go_wp2;refine bodyPost_ret (results_tmp rfl _ _ _) rfl ⟨?_,Hb.out⟩;have h:=mV.out;rw[List.drop_of_length_le (by rw[Hn.out];exact Nat.le_refl _)]at h;rw[h];rfl
theorem ad5 (a:Option Addr)(n cap:Nat)(vals:List Value)(gf:Nat)(lb:Array Value)(p:Value->Bool)(w:World)(hn:vals.length=n)(hl:n<=1099511627776)(ha:At w a vals)
 (eg:∀args w,(callFunc gf args).run Tryz.prog w=.ok (.enter gf args) w)
 (hcl:∀v∈vals,∀W,Bw w W->Calls Tryz.prog gf (#[v]++lb) W λe w'=>e=.returned (.bool (p v))/\Bw W w'):
 Calls Tryz.prog 124 #[.slice a n cap,.func (.func gf) #[] lb] w λe w'=>e=.returned (.bool (vals.any p))/\Bw w w':=by
 have h1:=agY a n cap vals gf lb p w hn hl ha eg hcl;rw[<-Wy p vals 0];generalize idxFrom p vals 0=i at*;have H1:=ah h1;clear h1 hcl eg ha hn;have Hb:Hid (Bw w w):=Below.refl _ _;go_enter Tryz.func124,Tryz.ntmps124;go_wp2_with fail;refine(H1.out).mono ?_;rintro e w1 ⟨rfl,ae⟩;replace Hb:=au Hb ae;clear ae;go_wp2;refine bodyPost_ret (v:=.bool (decide (0<=i))) (by simp[results,Tryz.results124,go_sem]) rfl ⟨rfl,?_⟩;(repeat first|exact Hb.out| (refine Below.setCell ?_ (by have:=Hb.out.size;first| (dsimp only;omega) | (show _<=_;omega) | (simp<;>omega)) _) | (refine Below.alloc ?_ zt _) |refine Below.drew ?_)
theorem agX (a:Option Addr)(n cap:Nat)(vals:List Value)(gf:Nat)(lb:Array Value)(p:Value->Bool)(w:World)(hn:vals.length=n)(hl:n<=1099511627776)(ha:At w a vals)
 (eg:∀args w,(callFunc gf args).run Tryz.prog w=.ok (.enter gf args) w)
 (hcl:∀v∈vals,∀W,Bw w W->Calls Tryz.prog gf (#[v]++lb) W λe w'=>e=.returned (.bool (p v))/\Bw W w'):
 Calls Tryz.prog 126 #[.slice a n cap,.func (.func gf) #[] lb] w λe w'=>e=.returned (.int .i64 (idxFrom p vals 0))/\Bw w w':=by
 obtain⟨Hn,Ha,iG,qh⟩:=dW hn ha hcl eg;clear hn ha hcl eg;have Hb:Hid (Bw w w):=Below.refl _ _;go_enter Tryz.func126,Tryz.ntmps126;go_wp2_with fail;go_loopw[5,8] (λ_ i wr=>∃k:Nat,k<=n/\i=.int .i64 (k:Int)/\idxFrom p vals 0=idxFrom p (vals.drop k) k/\Bw w wr) (λ_ i _=>n-(intOf i).toNat);case atStart=>exact⟨0,Nat.zero_le _,rfl,rfl,Hb.out⟩
 case round=>
  clear Hb;obtain⟨k,hk,rfl,gZ,pb⟩:=hrel;obtain⟨mV,Hb⟩:=aL gZ pb;clear gZ pb;by_cases hlt:k<n
  . have bj:k<vals.length:=by rw[Hn.out];exact hlt
    obtain⟨b,o,hab,hcs⟩:=(Ha.out.below Hb.out).get (by intro h;rw[h]at bj;simp at bj);obtain⟨v,hv⟩:=aB (vals[k]);have hc0:wr.cell? ⟨b,o+k,none⟩=some v:=by rw[hcs k bj,List.getElem?_eq_getElem bj,hv]
    have bD:=zZ n cap k (k:Int) hab hlt rfl;rw[Nat.mul_one]at bD;have hcall:=iG.out v (by rw[<-hv];exact List.getElem_mem bj) wr Hb.out;have hstep:=NB p vals k k bj;rw[hv,<-mV.out]at hstep;obtain⟨fU,ll⟩:=aL hstep hcall;have tj:=qh.out;clear hcs hab hv hstep hcall;go_wp2_with fail;refine ll.out.mono ?_;rintro e w1 ⟨rfl,hb1⟩;replace Hb:=ah (aJ Hb.out hb1);clear hb1 hc0 bD tj;obtain⟨t,ht⟩:=aB (p v);rw[ht]at fU⊢;clear ht;cases t with
    |true=>go_wp2;refine bodyPost_ret (results_tmp rfl _ _ _) rfl ⟨?_,Hb.out⟩;have h:=fU.out;rw[if_pos (by trivial)]at h;rw[h];rfl
    | false=>
      go_wp2;go_roundw;case rel=>exact⟨k+1,by omega,by go_num,by have h:=fU.out;rw[if_neg zd]at h;exact h,Hb.out⟩
      case measure=>simp[intOf];omega
  . obtain rfl:k=n:=by omega
    go_wp2;refine bodyPost_ret (results_tmp rfl _ _ _) rfl ⟨?_,Hb.out⟩;have h:=mV.out;rw[List.drop_of_length_le (by rw[Hn.out];exact Nat.le_refl _)]at h;rw[h];rfl
def Pt (w:World)(v:Value)(cC:List Raw):Prop:=∃a cap,v=.slice a cC.length cap/\At w a (cC.flatMap bo)
theorem Pt.below {w w':World}{v:Value}{cC:List Raw}(h:Pt w v cC)(hb:Bw w w'):Pt w' v cC:=
 let ⟨a,cap,hv,ha⟩:=h;⟨a,cap,hv,ha.below hb⟩
def aR (w:World)(a:Option Addr)(rows:List (List Raw)):Prop:=∃vals:List Value,vals.length=rows.length/\At w a vals/\∀i (h:i<rows.length) (h':i<vals.length),Pt w vals[i] rows[i]
theorem aR.below {w w':World}{a:Option Addr}{rows:List (List Raw)}(h:aR w a rows)(hb:Bw w w'):aR w' a rows:=
 let ⟨vals,hl,ha,hp⟩:=h;⟨vals,hl,ha.below hb,λi h1 h2=>(hp i h1 h2).below hb⟩
theorem kL {w w':World}{a:Option Addr}{rows:List (List Raw)}(h:Hid (aR w a rows))(k:Bw w w'):Hid (aR w' a rows):=h.out.below k
theorem aR.row {w:World}{a:Option Addr}{rows:List (List Raw)}(h:aR w a rows)(k:Nat)(hk:k<rows.length):
 ∃b o a' cap',a=some ⟨b,o,none⟩/\w.cell? ⟨b,o+k,none⟩=some (.slice a' rows[k].length cap')/\At w a' (rows[k].flatMap bo):=by
 obtain⟨vals,hl,ha,hp⟩:=h;have hk2:k<vals.length:=by rw[hl];exact hk
 obtain⟨b,o,hab,hcs⟩:=ha.get (by intro h0;rw[h0]at hk2;simp at hk2);obtain⟨a',cap',hv,hat⟩:=hp k hk hk2;exact⟨b,o,a',cap',hab,by rw[hcs k hk2,List.getElem?_eq_getElem hk2,hv],hat⟩
def vH :Value->Int
 | .slice _ n _=>n
 |_=>0
def yj (N:Int)(v:Value):Bool:=decide (vH v≠N)
theorem Sb {w:World}{vals:List Value}{rows:List (List Raw)}(N:Int)(hl:vals.length=rows.length)(hp:∀i (h:i<rows.length) (h':i<vals.length),Pt w vals[i] rows[i]):
 vals.any (yj N)=rows.any λr=>decide ((r.length:Int)≠N):=by
 induction vals generalizing rows with
 |nil=>have:rows=[]:=List.length_eq_zero_iff.1 hl.symm;subst this;rfl
 | cons v vs ih=>
   match rows,hl with
   |r::rs,hl=>have h0:=hp 0 zm zm;obtain⟨a,cap,hv,_⟩:=h0;have hv':v=.slice a r.length cap:=hv;have:=ih (rows:=rs) (by simpa using hl) (λi h h'=>hp (i+1) zi zi);rw[List.any_cons,List.any_cons,this];subst hv';rfl
theorem alA (bn:Nat)(N:Int)(a:Option Addr)(n cap:Nat)(w:World)(hN:w.cell? ⟨bn,0,none⟩=some (.int .i64 N)):
 Calls Tryz.prog 84 #[.slice a n cap,.pointer (some ⟨bn,0,none⟩)] w λe w'=>e=.returned (.bool (yj N (.slice a n cap)))/\Bw w w':=by
 have Hb:Hid (Bw w w):=Below.refl _ _;go_enter Tryz.func84,Tryz.ntmps84;go_wp2;refine bodyPost_ret (results_tmp rfl _ _ _) rfl ⟨?_,Hb.out⟩;simp only[yj,vH];by_cases h:(n:Int)=N<;>simp[h]
def fB (rows:List (List Raw)):Int:=
 let n:Int:=rows.length-1
 if n<1\/8<n\/(rows.any λr=>decide ((r.length:Int)≠n))then 0 else n
theorem AL (a:Option Addr)(L cap:Nat)(rows:List (List Raw))(w:World)(hL:rows.length=L)(hl:L<=1099511627776)(ha:aR w a rows):
 Calls Tryz.prog 44 #[.slice a L cap] w λe w'=>e=.returned (.int .i64 (fB rows))/\Bw w w':=by
 obtain⟨vals,hvl,hat,hp⟩:=ha;have tQ:=λN=>Sb (w:=w) N hvl hp;have hcl:∀(bn:Nat) (W:World),W.cell? ⟨bn,0,none⟩=some (.int .i64 ((L:Int)-1))->At W a vals->Calls Tryz.prog 85 #[.slice a L cap,.func (.func 84) #[] #[.pointer (some ⟨bn,0,none⟩)]] W λe w'=>e=.returned (.bool (rows.any λr=>decide ((r.length:Int)≠(L:Int)-1)))/\Bw W w':=by intro bn W hc hA;rw[<-tQ];refine ad6 a L cap vals 84 #[.pointer (some ⟨bn,0,none⟩)] (yj ((L:Int)-1)) W (by rw[hvl,hL]) hl hA (enters_of Tryz.func84 zk rfl) (λv hv W' hb=>?_);obtain⟨i,hi,rfl⟩:=List.mem_iff_getElem.1 hv;obtain⟨a',cap',e,_⟩:=hp i (by rw[<-hvl];exact hi) hi;rw[e];exact alA bn _ a' _ cap' W' (cell_later hb hc)
 have hv:fB rows=if(L:Int)-1<1\/8<(L:Int)-1\/(rows.any λr=>decide ((r.length:Int)≠(L:Int)-1))=true then 0 else(L:Int)-1:=by unfold fB;rw[hL]
 obtain⟨T,hT⟩:=aB (rows.any λr=>decide ((r.length:Int)≠(L:Int)-1));rw[hT]at hv;simp only[hT]at hcl;obtain⟨iG,fc,Hv⟩:=cL hcl hat hv;obtain⟨V,hV⟩:=aB (fB rows);rw[hV]at Hv⊢;clear hcl hat hv tQ hvl hp hL hT hV;obtain⟨W,dc,Hb,Hn⟩:=iF w 3 [.int .i64 ((L:Int)-1)];have n0:=Hn.out.c1;go_enter Tryz.func44,Tryz.ntmps44;by_cases h1:(L:Int)-1<1
 . have hv:=Hv.out;rw[if_pos (.inl h1)]at hv;subst hv;go_wp2;refine bodyPost_ret (v:=.int .i64 0) (by simp[results,Tryz.results44,go_sem]) rfl ⟨rfl,?_⟩;(repeat first|exact Hb.out| (refine Below.setCell ?_ (by have:=Hb.out.size;first| (dsimp only;omega) | (show _<=_;omega) | (simp<;>omega)) _) | (refine Below.alloc ?_ zt _) |refine Below.drew ?_)
 . by_cases h2:8<(L:Int)-1
   . have hv:=Hv.out;rw[if_pos (.inr (.inl h2))]at hv;subst hv;go_wp2;refine bodyPost_ret (v:=.int .i64 0) (by simp[results,Tryz.results44,go_sem]) rfl ⟨rfl,?_⟩;(repeat first|exact Hb.out| (refine Below.setCell ?_ (by have:=Hb.out.size;first| (dsimp only;omega) | (show _<=_;omega) | (simp<;>omega)) _) | (refine Below.alloc ?_ zt _) |refine Below.drew ?_)
   . have ll:=ah (iG.out w.heap.size W n0 (fc.out.below Hb.out));go_wp2_with fail;refine(ll.out).mono ?_;rintro e w1 ⟨rfl,ae⟩;clear n0;replace Hn:=kB Hn ae;have n0:=Hn.out.c1;replace Hb:=au Hb ae;clear ae;cases T with
     |true=>have hv:=Hv.out;rw[if_pos (.inr (.inr rfl))]at hv;subst hv;go_wp2;refine bodyPost_ret (v:=.int .i64 0) (by simp[results,Tryz.results44,go_sem]) rfl ⟨rfl,?_⟩;(repeat first|exact Hb.out| (refine Below.setCell ?_ (by have:=Hb.out.size;first| (dsimp only;omega) | (show _<=_;omega) | (simp<;>omega)) _) | (refine Below.alloc ?_ zt _) |refine Below.drew ?_)
     |false=>have hv:=Hv.out;rw[if_neg (by rintro(h|h|h);omega;omega;cases h)]at hv;subst hv;go_wp2;refine bodyPost_ret (v:=.int .i64 ((L:Int)-1)) (by simp[results,Tryz.results44,go_sem]) rfl ⟨rfl,?_⟩;(repeat first|exact Hb.out| (refine Below.setCell ?_ (by have:=Hb.out.size;first| (dsimp only;omega) | (show _<=_;omega) | (simp<;>omega)) _) | (refine Below.alloc ?_ zt _) |refine Below.drew ?_)
theorem aid (bn:Nat)(a0:Option Addr)(N c0:Nat)(a:Option Addr)(n cap:Nat)(w:World)(hN:w.cell? ⟨bn,0,none⟩=some (.slice a0 N c0)):
 Calls Tryz.prog 125 #[.slice a n cap,.pointer (some ⟨bn,0,none⟩)] w λe w'=>e=.returned (.bool (yj (N:Int) (.slice a n cap)))/\Bw w w':=by
 have Hb:Hid (Bw w w):=Below.refl _ _;go_enter Tryz.func125,Tryz.ntmps125;go_wp2;refine bodyPost_ret (results_tmp rfl _ _ _) rfl ⟨?_,Hb.out⟩;simp only[yj,vH];by_cases h:(n:Int)=(N:Int)<;>simp[h]
def uh (rows:List (List Raw)):Int:=if 8<rows.length\/(rows.any λr=>decide ((r.length:Int)≠(rows.length:Int)))then 1 else 0
theorem NT (a:Option Addr)(L cap:Nat)(rows:List (List Raw))(w:World)(hL:rows.length=L)(hl:L<=1099511627776)(ha:aR w a rows):
 Calls Tryz.prog 86 #[.slice a L cap] w λe w'=>e=.returned (.int .i64 (uh rows))/\Bw w w':=by
 obtain⟨vals,hvl,hat,hp⟩:=ha;have tQ:=λN=>Sb (w:=w) N hvl hp;have hcl:∀(bn:Nat) (W:World),W.cell? ⟨bn,0,none⟩=some (.slice a L cap)->At W a vals->Calls Tryz.prog 124 #[.slice a L cap,.func (.func 125) #[] #[.pointer (some ⟨bn,0,none⟩)]] W λe w'=>e=.returned (.bool (rows.any λr=>decide ((r.length:Int)≠(L:Int))))/\Bw W w':=by intro bn W hc hA;rw[<-tQ];refine ad5 a L cap vals 125 #[.pointer (some ⟨bn,0,none⟩)] (yj (L:Int)) W (by rw[hvl,hL]) hl hA (enters_of Tryz.func125 zk rfl) (λv hv W' hb=>?_);obtain⟨i,hi,rfl⟩:=List.mem_iff_getElem.1 hv;obtain⟨a',cap',e,_⟩:=hp i (by rw[<-hvl];exact hi) hi;rw[e];exact aid bn a L cap a' _ cap' W' (cell_later hb hc)
 have hv:uh rows=if 8<L\/(rows.any λr=>decide ((r.length:Int)≠(L:Int)))=true then 1 else 0:=by unfold uh;rw[hL]
 obtain⟨T,hT⟩:=aB (rows.any λr=>decide ((r.length:Int)≠(L:Int)));rw[hT]at hv;simp only[hT]at hcl;obtain⟨iG,fc,Hv⟩:=cL hcl hat hv;obtain⟨V,hV⟩:=aB (uh rows);rw[hV]at Hv⊢;clear hcl hat hv tQ hvl hp hL hT hV;obtain⟨W,dc,Hb,Hn⟩:=iF w 78 [.slice a L cap];have n0:=Hn.out.c1;go_enter Tryz.func86,Tryz.ntmps86;by_cases h1:8<L
 . have hv:=Hv.out;rw[if_pos (.inl h1)]at hv;subst hv;have h2:(8:Int)<(L:Int):=by omega
   go_wp2;refine bodyPost_ret (v:=.int .i64 1) (by simp[results,Tryz.results86,go_sem]) rfl ⟨rfl,?_⟩;(repeat first|exact Hb.out| (refine Below.setCell ?_ (by have:=Hb.out.size;first| (dsimp only;omega) | (show _<=_;omega) | (simp<;>omega)) _) | (refine Below.alloc ?_ zt _) |refine Below.drew ?_)
 . have h2:¬(8:Int)<(L:Int):=by omega
   have ll:=ah (iG.out w.heap.size W n0 (fc.out.below Hb.out));go_wp2_with fail;refine(ll.out).mono ?_;rintro e w1 ⟨rfl,ae⟩;clear n0;replace Hn:=kB Hn ae;have n0:=Hn.out.c1;replace Hb:=au Hb ae;clear ae;cases T with
   |true=>have hv:=Hv.out;rw[if_pos (.inr rfl)]at hv;subst hv;go_wp2;refine bodyPost_ret (v:=.int .i64 1) (by simp[results,Tryz.results86,go_sem]) rfl ⟨rfl,?_⟩;(repeat first|exact Hb.out| (refine Below.setCell ?_ (by have:=Hb.out.size;first| (dsimp only;omega) | (show _<=_;omega) | (simp<;>omega)) _) | (refine Below.alloc ?_ zt _) |refine Below.drew ?_)
   |false=>have hv:=Hv.out;rw[if_neg (by rintro(h|h);omega;cases h)]at hv;subst hv;go_wp2;refine bodyPost_ret (v:=.int .i64 0) (by simp[results,Tryz.results86,go_sem]) rfl ⟨rfl,?_⟩;(repeat first|exact Hb.out| (refine Below.setCell ?_ (by have:=Hb.out.size;first| (dsimp only;omega) | (show _<=_;omega) | (simp<;>omega)) _) | (refine Below.alloc ?_ zt _) |refine Below.drew ?_)
theorem yz {rows:List (List Raw)}{n:Int}(h:fB rows=n)(h0:n≠0):1<=n/\n<=8/\(rows.length:Int)=n+1/\∀r∈rows,(r.length:Int)=n:=by
 unfold fB at h;dsimp only at h;split at h
 . exact absurd h.symm h0
 . rename_i hc
   simp only[not_or,Bool.not_eq_true,List.any_eq_false,decide_eq_true_eq,Decidable.not_not]at hc;obtain⟨h1,h2,h3⟩:=hc;refine⟨by omega,by omega,by omega,λr hr=>?_⟩;have:=h3 r hr;omega
theorem yx {rows:List (List Raw)}{n:Nat}(h1:rows.length=n+1)(h2:∀r∈rows,r.length=n)(h3:1<=n)(h8:n<=8):fB rows=n:=by
 unfold fB;dsimp only;rw[if_neg]
 . omega
 . rintro(h|h|h)
   . omega
   . omega
   . rw[List.any_eq_true]at h;obtain⟨r,hr,h⟩:=h;have:=h2 r hr;simp[h1,this]at h
def Bv (w:World)(x:Value)(n v:Nat):Prop:=v<2^n/\((x=.slice none 0 0/\n=0)\/∃b o cap,x=.slice (some ⟨b,o,none⟩) n cap/\n<=cap/\∀j,j<n->w.cell? ⟨b,o+j,none⟩=some (.int .u8 (bd v j:Int)))
theorem Bv.below {w w':World}{x:Value}{n v:Nat}(h:Bv w x n v)(hb:Bw w w'):Bv w' x n v:=by
 refine⟨h.1,?_⟩;rcases h.2 with h|⟨b,o,cap,e,h1,hc⟩
 . exact .inl h
 . exact .inr ⟨b,o,cap,e,h1,λj hj=>cell_later hb (hc j hj)⟩
theorem Bv.apt {w:World}{base:Nat}{e:TypeId}{x:Value}{n v:Nat}(h:w.ownsRow base e 1 x n (cQ n (bd v)))(hx:v<2^n):Bv w x n v:=by
 refine⟨hx,?_⟩;rcases h.2 with⟨rfl,rfl⟩ |⟨g,cap,cur,rfl,hb,hg,h2,h3,h4,h5⟩
 . exact .inl ⟨rfl,rfl⟩
 . refine .inr ⟨g,0,cap,rfl,h2,λj hj=>?_⟩;have:=h.cells (g:=g) rfl j _ (kZ n (bd v) j hj);have e2:((⟨g,0,none⟩:Addr).add j)=⟨g,j,none⟩:=by simp[Addr.add];omega
   rw[Nat.zero_add,<-e2];exact this
theorem Bv.apk {w:World}{b:Nat}{t:TypeId}{n v:Nat}(h:ak w b t (cQ n (bd v)))(hv:v<2^n):Bv w (.slice (some ⟨b,0,none⟩) n n) n v:=
 ⟨hv,.inr ⟨b,0,n,rfl,Nat.le_refl _,λj hj=>by rw[Nat.zero_add,h.cell,kZ _ _ _ hj]⟩⟩
theorem Ya (b o n cap v:Nat)(w:World)(hm:n<=1099511627776)(hcap:n<=cap)(hc:∀j,j<n->w.cell? ⟨b,o+j,none⟩=some (.int .u8 (bd v j:Int)))(hv:v<2^n):
 Calls Tryz.prog 160 #[.slice (some ⟨b,o,none⟩) n cap] w λe w'=>e=.returned (.slice (some ⟨b,o,none⟩) (bA v) cap)/\w=w':=by
 have Hc:=ah hc;clear hc;have Hv:=ah hv;clear hv;go_enter Tryz.func160,Tryz.ntmps160;go_wp2_with fail;go_loop [3] (λx=>∃k:Nat,k<=n/\v<2^k/\x=.int .i64 (k:Int)) (λx=>(intOf x).toNat)
 case atStart=>exact⟨n,Nat.le_refl _,Hv.out,rfl⟩
 case round=>
  obtain⟨k,hk,hvk,rfl⟩:=hrel;have mZ:=ah hvk;clear hvk;by_cases h0:0<k
  . have hcell:w.cell? ⟨b,o+(k-1),none⟩=some (.int .u8 (bd v (k-1):Int)):=Hc.out _ zo;have bD:=vG n cap (k-1) ((k:Int)-1) (rfl:(some ⟨b,o,none⟩:Option Addr)=_) zo zo;rw[Nat.mul_one]at bD;by_cases hd:bd v (k-1)=0
    . have hd':((bd v (k-1):Int)==0)=true:=by simp[hd]
      have Hd:=ah hd;clear hd;go_wp2;refine⟨⟨k-1,by omega,?_,by go_num⟩,by simp[intOf];omega⟩;refine ado ?_ Hd.out;rw[show k-1+1=k by omega];exact mZ.out
    . have hd':((bd v (k-1):Int)==0)=false:=by simp[hd]
      have Hd:=ah hd;clear hd;go_wp2;go_ret;have e:bA v=k:=by have:=adf (v:=v) (k:=k-1) (by rw[show k-1+1=k by omega];exact mZ.out) (adn Hd.out);omega
      rw[e];exact⟨rfl,rfl⟩
  . obtain rfl:k=0:=by omega
    go_wp2;go_ret;have e:bA v=0:=by have:=mZ.out;simp at this;subst this;rfl
    rw[e];exact⟨rfl,rfl⟩
theorem Yb (w:World):
 Calls Tryz.prog 160 #[.slice none 0 0] w λe w'=>e=.returned (.slice none 0 0)/\w=w':=by
 go_enter Tryz.func160,Tryz.ntmps160;go_wp2_with fail;refine wp_loop_rounds 1 ?_;rw[rounds_succ];go_wp2;go_ret;exact⟨rfl,rfl⟩
def Cm (x:Value)(lo:Nat):Prop:=∀b o n c,x=.slice (some ⟨b,o,none⟩) n c->lo<=b
theorem OL (x:Value)(n v:Nat)(w:World)(hm:n<=1099511627776)(hx:Bv w x n v):
 Calls Tryz.prog 160 #[x] w λe w'=>(∃y,e=.returned y/\Bv w y (bA v) v/\∀lo,Cm x lo->Cm y lo)/\w=w':=by
 have hl:=gG hx.1;rcases hx.2 with⟨rfl,rfl⟩ |⟨b,o,cap,rfl,h1,hc⟩
 . refine(Yb w).mono ?_;rintro e w' ⟨rfl,rfl⟩;exact⟨⟨_,rfl,⟨pk v,.inl ⟨rfl,by omega⟩⟩,λ_ h=>h⟩,rfl⟩
 . refine(Ya b o n cap v w hm h1 hc hx.1).mono ?_;rintro e w' ⟨rfl,rfl⟩;exact⟨⟨_,rfl,⟨pk v,.inr ⟨b,o,cap,rfl,by omega,λj hj=>hc j zo⟩⟩,λlo h b' o' n' c' e=>by cases e;exact h _ _ _ _ rfl⟩,rfl⟩
theorem aks (b o n cap v:Nat)(w:World)(hm:n<=1099511627776)(hcap:n<=cap)(hc:∀j,j<n->w.cell? ⟨b,o+j,none⟩=some (.int .u8 (bd v j:Int)))(hv:v<2^n):
 Calls Tryz.prog 152 #[.slice (some ⟨b,o,none⟩) n cap] w λe w'=>e=.returned (.string (bs (nt v)))/\Bw w w':=by
 have hle:=gG hv;have hcut:=Ya b o n cap v w hm hcap hc hv;have hvl:=pk v;have tq:Hid ((List.range ((bA v+7)/8)).map (λj=>UInt8.ofNat (v/256^((bA v+7)/8-1-j)%256))=nt v):=Og _ _ (Cu v).1 (Cu v).2;generalize hL:bA v=L at*;obtain⟨nb,hnb⟩:=aB ((L+7)/8);have hmk:=sD (((L:Int)+7)/8) nb zo zo;have MP:((L:Int)+7)/8=(nb:Int):=by omega
 rw[MP]at hmk;rw[hnb]at tq;obtain⟨aaf,Hc,Hv,iK,HL⟩:=fg hcut hc hv hvl hL;clear hcut hc hv hvl hL;go_enter Tryz.func152,Tryz.ntmps152;go_wp2_with fail;refine aaf.out.mono ?_;rintro e w' ⟨rfl,rfl⟩;go_wp2_with fail;go_loopw[4] (λi wr=>∃k:Nat,k<=L/\i=.int .i64 (k:Int)/\ak wr w.heap.size 5 (cQ nb (λj=>v%2^k/256^(nb-1-j)%256))/\Bw w wr) (λi _=>L-(intOf i).toNat);case atStart=>
  refine⟨0,Nat.zero_le _,rfl,?_,zl⟩;have e:cQ nb (λj=>v%2^0/256^(nb-1-j)%256)=cQ nb λ_=>0:=mS λj hj=>by simp[Nat.mod_one]
  rw[e];exact ak.new _ _ _
 case round=>
  obtain⟨k,hk,rfl,hB,hb⟩:=hrel;by_cases hlt:k<L
  . have hq:k/8<nb:=by omega
    obtain⟨Z,hZ⟩:=aB (bd v k);have hZ1:Z<=1:=by rw[<-hZ];exact rK v k
    have kd:wr.cell? ⟨b,o+k,none⟩=some (.int .u8 (Z:Int)):=by rw[<-hZ];exact cell_later hb (Hc.out _ zo)
    obtain⟨A,hA⟩:=aB (v%2^k/256^(k/8)%256);have hcell:wr.cell? ⟨w.heap.size,nb-1-k/8,none⟩=some (.int .u8 (A:Int)):=by rw[hB.cell,kZ _ _ _ zo,show nb-1-(nb-1-k/8)=k/8 by omega,hA]
    have hfree:wr.frozen? ⟨w.heap.size,nb-1-k/8,none⟩=false:=hB.free _;obtain⟨hb1,hb2⟩:=ads v k;rw[hA,hZ]at hb1 hb2;have bV:=hB.set (nb-1-k/8) (.int .u8 ((A+Z*2^(k%8):Nat):Int));have hb3:=hb.setCell (p:=⟨w.heap.size,nb-1-k/8,none⟩) (Nat.le_refl _) (.int .u8 ((A+Z*2^(k%8):Nat):Int))
    rw[yw,mS (g:=λj=>v%2^(k+1)/256^(nb-1-j)%256) λj hj=>by
     by_cases jG:j=nb-1-k/8
     . subst jG;rw[if_pos rfl,show nb-1-(nb-1-k/8)=k/8 by omega,hb1]
     . rw[if_neg jG,adt v k _ zo]]at bV
    obtain⟨eH,Hb⟩:=aL bV hb3;clear hB hb bV hb3 hb1 hA hZ;have He:Hid ((((A:Int)+(Z:Int) *2^(k%8))%256)=((A+Z*2^(k%8):Nat):Int)):=by
     show _=_
     have:((Z:Int) *2^(k%8))=((Z*2^(k%8):Nat):Int):=by simp
     rw[this];omega
    clear hb2;go_wp2;go_region
    go_wp2;go_roundw;case rel=>rw[He.out];exact⟨k+1,by omega,by go_num,eH.out,Hb.out.drew⟩
    case measure=>simp[intOf];omega
  . obtain rfl:k=L:=by omega
    rw[Nat.mod_eq_of_lt iK.out]at hB;have xA:=yu hB nb;rw[tq.out]at xA;have Hb:=ah hb;clear hb hB;go_wp2;go_ret;exact⟨rfl,Hb.out⟩
theorem akt (w:World):
 Calls Tryz.prog 152 #[.slice none 0 0] w λe w'=>e=.returned (.string (bs []))/\Bw w w':=by
 have hmk:=sD 0 0 rfl zo;have xA:=yu (ak.new w 5 (cQ 0 λ_=>0)) 0;go_enter Tryz.func152,Tryz.ntmps152;go_wp2_with fail;refine(Yb w).mono ?_;rintro e w' ⟨rfl,rfl⟩;go_wp2_with fail;refine wp_loop_rounds 1 ?_;rw[rounds_succ];go_wp2;go_ret;exact⟨rfl,zl⟩
theorem ul (x:Value)(n v:Nat)(w:World)(hm:n<=1099511627776)(hx:Bv w x n v):
 Calls Tryz.prog 152 #[x] w λe w'=>e=.returned (.string (bs (nt v)))/\Bw w w':=by
 rcases hx.2 with⟨rfl,rfl⟩ |⟨b,o,cap,rfl,h1,hc⟩
 . have h0:=hx.1;obtain rfl:v=0:=by simpa using h0
   exact akt w
 . exact aks b o n cap v w hm h1 hc hx.1
theorem YP (n:Nat)(f:Nat->Nat):cQ (n+1) f=cQ n f++[.int .u8 (f n:Int)]:=by unfold cQ;rw[List.range_succ,List.map_append];rfl
theorem aj9 (N:Nat)(w:World)(hN:N<WW):
 Calls Tryz.prog 119 #[.int .u64 (N:Int)] w λe w'=>e=.returned (.string (bs (nt N)))/\Bw w w':=by
 obtain⟨i0,hi,hz0,hz1,hz2⟩:=info_parts Tryz.apn;have hNb:bA N<=64:=gG (by rw[kF]at hN;exact hN);have hW:=jr;go_enter Tryz.func119,Tryz.ntmps119;go_wp2_with fail;go_loopw[0,3] (λu v wr=>∃k:Nat,k<=bA N/\u=.int .u64 ((N/2^k:Nat):Int)/\wr.ownsRow w.heap.size 5 1 v k (cQ k (bd N))/\Bw w wr) (λu _ _=>(intOf u).toNat);case atStart=>exact⟨0,Nat.zero_le _,by simp,World.ownsRow_nil _ _ _ _,Below.refl _ _⟩
 case round=>
  obtain⟨k,hk,rfl,hown,hb⟩:=hrel;obtain⟨M,hM⟩:=aB (N/2^k);have CO:M<18446744073709551616:=by have:=Nat.div_le_self N (2^k);omega
  have HM:=ah hM;rw[hM];have zJ:N/2^(k+1)=M/2:=by rw[Nat.pow_succ,<-Nat.div_div_eq_div_mul,hM]
  have kM:bd N k=M%2:=by unfold bd;rw[hM]
  obtain⟨wz,jS⟩:=aL zJ kM;clear hM zJ kM hW hN;by_cases h0:0<M
  . have h01:(0:Int)<(M:Int):=by omega
    have hkl:k<bA N:=by
     rcases Nat.lt_or_ge k (bA N)with h|h
     . exact h
     . have h1:N<2^k:=Nat.lt_of_lt_of_le (pk N) (Nat.pow_le_pow_right zd h);have:=HM.out;rw[Nat.div_eq_of_lt h1]at this;omega
    have hs0:=hb.size;have kC:=ah hown;clear hown;go_wp2_with (first| (at_builtin;refine wpList_append_own _ rfl _ _ 111 rfl w.heap.size 5 i0 (.int .u8 0) 1 1 Tryz.underlying111 hi hz0 hz1 hz2 rfl zd _ _ _ rfl (kC.out.alloc _) ⟨wr.heap.size,0,none⟩ 1 1 [.int .u8 ((M:Int)%2)] rfl rfl (cell_one_new _ _ _) zy zx zo zi ?_;intro v' w1 ho hg _;obtain⟨Ho,Hg⟩:=aL ho hg;clear ho hg));go_roundw;case rel=>
     refine⟨k+1,by omega,?_,?_,?_⟩
     . rw[wz.out];go_num
     . rw[YP,jS.out];have e:((M%2:Nat):Int)=(M:Int)%2:=by omega
       rw[e];exact Ho.out
     . exact(hb.alloc hs0 _).grown Hg.out zi (λj e=>cJ kC.out j e)
    case measure=>simp[intOf];omega
  . obtain rfl:M=0:=by omega
    have Vj:N<2^k:=by have:=HM.out;exact(Nat.div_eq_zero_iff_lt (Nat.pow_pos zd)).1 this
    obtain⟨Jz,Hb⟩:=aL (Bv.apt hown Vj) hb;clear hown Vj hb;go_wp2_with fail;refine(ul u3 k N wr zo Jz.out).mono ?_;rintro e w2 ⟨rfl,hb2⟩;have bP:=ah hb2;clear hb2;go_wp2;go_ret;exact⟨rfl,aJ Hb.out bP.out⟩
theorem KV (a:Nat)(ha:a<256):bits .and .u8 (a:Int) 1=((a%2:Nat):Int):=by
 have h1:(BitVec.ofInt 8 (a:Int)).toNat=a:=by rw[BitVec.ofInt_natCast,BitVec.toNat_ofNat];exact Nat.mod_eq_of_lt zo
 show IntKind.u8.wrap ((BitVec.ofInt 8 (a:Int)&&&BitVec.ofInt 8 1).toNat:Int)=_
 rw[BitVec.toNat_and,h1,show(BitVec.ofInt 8 1).toNat=1 from rfl,Nat.and_one_is_mod,IntKind.wrap_u8];omega
theorem oK (l:List UInt8)(w:World)(hl:l.length<=68719476736):
 Calls Tryz.prog 132 #[.string (bs l)] w λe w'=>(∃y,e=.returned y/\Bv w' y (bA (nv l)) (nv l))/\Bw w w':=by
 obtain⟨i0,hi,hz0,hz1,hz2⟩:=info_parts Tryz.apn;have hsz:(bs l).size=l.length:=nY l;go_enter Tryz.func132,Tryz.ntmps132;go_wp2_with fail;go_loopw[3,4,5] (λv i _ wr=>∃m:Nat,m<=l.length/\i=.int .i64 ((l.length:Int)-1-(m:Int))/\wr.ownsRow w.heap.size 5 1 v (8*m) (cQ (8*m) (bd (nv l)))/\Bw w wr) (λ_ i _ _=>(intOf i+1).toNat);case atStart=>exact⟨0,Nat.zero_le _,by go_num,World.ownsRow_nil _ _ _ _,Below.refl _ _⟩
 case round=>
  obtain⟨m,hm,rfl,hown,hb⟩:=hrel;obtain⟨kC,Hb⟩:=aL hown hb;clear hown hb;by_cases hlt:m<l.length
  . have hge:(m:Int)<=(l.length:Int)-1:=by omega
    have gZ:=xU l ((l.length:Int)-1-(m:Int)) (l.length-1-m) zo zo;have aac:Hid (∀k,k<8->l[l.length-1-m].toNat/2^k%2=bd (nv l) (8*m+k)):=λk hk=>aiQ l m k hlt hk;have hC:=(l[l.length-1-m]'zo).toNat_lt;generalize hCe:l[l.length-1-m].toNat=C at*;clear hCe;go_wp2_with fail;go_loopw[3,5] (λv j wr=>∃k:Nat,k<=8/\j=.int .i64 (k:Int)/\wr.ownsRow w.heap.size 5 1 v (8*m+k) (cQ (8*m+k) (bd (nv l)))/\Bw w wr) (λ_ j _=>8-(intOf j).toNat);case atStart=>exact⟨0,Nat.zero_le _,rfl,kC.out,Hb.out⟩
    case round=>
     clear kC Hb;obtain⟨k,hk,rfl,hown,hb⟩:=hrel;obtain⟨kC,Hb⟩:=aL hown hb;have hs0:=hb.size;clear hown hb;by_cases hk8:k<8
     . obtain ⟨Z,hZ⟩:=aB (C/2^k%2);have hbk:=aac.out k hk8;rw[hZ]at hbk;have Br:=ah hbk;clear hbk;have hand:bits .and .u8 ((C:Int)/2^k) 1=(Z:Int):=by
        have e:(C:Int)/2^k=((C/2^k:Nat):Int):=by simp
        have:=Nat.div_le_self C (2^k);rw[e,KV _ zo,hZ]
       clear hZ;go_wp2_with (first| (at_builtin;refine wpList_append_own _ rfl _ _ 111 rfl w.heap.size 5 i0 (.int .u8 0) 1 1 Tryz.underlying111 hi hz0 hz1 hz2 rfl zd _ _ _ rfl (kC.out.alloc _) ⟨wr.heap.size,0,none⟩ 1 1 [.int .u8 (Z:Int)] rfl rfl (cell_one_new _ _ _) zy zx zo zi ?_;intro v' w1 ho hg _;obtain⟨Ho,Hg⟩:=aL ho hg;clear ho hg));go_roundw;case rel=>
        refine⟨k+1,by omega,?_,?_,?_⟩
        . go_num
        . rw[<-Nat.add_assoc,YP,<-Br.out];exact Ho.out
        . exact(Hb.out.alloc hs0 _).grown Hg.out zi (λj e=>cJ kC.out j e)
       case measure=>simp[intOf];omega
     . obtain rfl:k=8:=by omega
       go_wp2;go_roundw;case rel=>exact⟨m+1,by omega,by go_num,kC.out,Hb.out⟩
       case measure=>simp[intOf];omega
  . obtain rfl:m=l.length:=by omega
    have Jz:=ah (Bv.apt kC.out (nM l));clear hlt;go_wp2_with fail;refine(OL u3 (8*l.length) (nv l) wr zo Jz.out).mono ?_;rintro e w2 ⟨⟨y,rfl,hy,_⟩,rfl⟩;have Hy:=ah hy;clear hy;go_wp2;go_ret;exact⟨⟨_,rfl,Hy.out⟩,Hb.out⟩
theorem AB (x:Value)(n v i:Nat)(w:World)(hx:Bv w x n v)(hi:i<=1099511627776)(hn:n<=1099511627776):
 Calls Tryz.prog 179 #[x,.int .i64 (i:Int)] w λe w'=>e=.returned (.int .u8 (bd v i:Int))/\w=w':=by
 obtain⟨hv,h⟩:=hx;by_cases hlt:i<n
 . rcases h with⟨rfl,h0⟩ |⟨b,o,cap,rfl,h1,hc⟩
   . omega
   . have hcell:=hc i hlt;have bD:=vG n cap i (i:Int) (rfl:(some ⟨b,o,none⟩:Option Addr)=_) hlt rfl;rw[Nat.mul_one]at bD;clear hc hv;go_enter Tryz.func179,Tryz.ntmps179;go_wp2;go_ret;exact⟨rfl,rfl⟩
 . have h0:bd v i=0:=ac7 hv zo;have H0:=ah h0;clear h0 hv;rcases h with⟨rfl,h0⟩ |⟨b,o,cap,rfl,h1,hc⟩
   . subst h0;go_enter Tryz.func179,Tryz.ntmps179;go_wp2;go_ret;exact⟨by rw[H0.out];rfl,rfl⟩
   . clear hc;go_enter Tryz.func179,Tryz.ntmps179;go_wp2;go_ret;exact⟨by rw[H0.out];rfl,rfl⟩
theorem Bv.len {w:World}{x:Value}{n v:Nat}(h:Bv w x n v):∃a cap,x=.slice a n cap:=by
 rcases h.2 with⟨rfl,rfl⟩ |⟨b,o,cap,rfl,_⟩
 . exact⟨_,_,rfl⟩
 . exact⟨_,_,rfl⟩
theorem XZ (x y:Value)(n m v u:Nat)(w:World)(hx:Bv w x n v)(hy:Bv w y m u)(hn:n<=1099511627776)(hm:m<=1099511627776):
 Calls Tryz.prog 176 #[x,y] w λe w'=>e=.returned (.int .i64 (dh v u))/\w=w':=by
 obtain⟨a,cap,jI⟩:=hx.len;obtain⟨a',cap',DU⟩:=hy.len;have oz:=λi (hi:i<=1099511627776)=>AB x n v i w hx hi hn;have hby:=λi (hi:i<=1099511627776)=>AB y m u i w hy hi hm;have hv:=hx.1;have hu:=hy.1;subst jI;subst DU;obtain⟨Bt,Bu,Hv,Hu⟩:=dW oz hby hv hu;clear oz hby hv hu hx hy;obtain⟨M,hM⟩:=aB (max n m);have hMI:max (n:Int) (m:Int)=(M:Int):=by omega
 have cd:Hid (v/2^M=u/2^M):=by
  show _=_
  rw[Nat.div_eq_of_lt (Nat.lt_of_lt_of_le Hv.out (Nat.pow_le_pow_right zd zo)),Nat.div_eq_of_lt (Nat.lt_of_lt_of_le Hu.out (Nat.pow_le_pow_right zd zo))]
 have CO:M<=1099511627776:=by omega
 clear hM;go_enter Tryz.func176,Tryz.ntmps176;go_wp2_with fail;go_loop [5] (λi=>∃k:Nat,k<=M/\v/2^k=u/2^k/\i=.int .i64 ((k:Int)-1)) (λi=>(intOf i+1).toNat)
 case atStart=>exact⟨M,Nat.le_refl _,cd.out,rfl⟩
 case round=>
  obtain⟨k,hk,hvk,rfl⟩:=hrel;have mZ:=ah hvk;clear hvk;by_cases h0:0<k
  . obtain⟨j,rfl⟩:∃j,k=j+1:=⟨k-1,by omega⟩;have oz:=Bt.out j zo;have hby:=Bu.out j zo;obtain⟨yK,Hgt,EU⟩:=cL (λh=>Sn (v:=v) (u:=u) mZ.out h) (λh=>Sn (v:=u) (u:=v) mZ.out.symm h) (λh=>ac6 (v:=v) (u:=u) mZ.out h);have hp1:=rK v j;have hq1:=rK u j;generalize bd v j=p at*;generalize bd u j=q at*;obtain⟨H1,H2⟩:=aL oz hby;clear oz hby;have hj:((j+1:Nat):Int)-1=(j:Int):=by omega
    rw[hj];clear hj h0;go_wp2_with fail;refine H1.out.mono ?_;rintro e w' ⟨rfl,rfl⟩;go_wp2_with fail;refine H2.out.mono ?_;rintro e w' ⟨rfl,rfl⟩;by_cases hpq:p<q
    . have agD:(p:Int)<(q:Int):=by omega
      go_wp2;go_ret;have:=yK.out hpq;exact⟨by unfold dh;rw[if_pos this];rfl,rfl⟩
    . have agD:¬(p:Int)<(q:Int):=by omega
      go_wp2_with fail;refine H1.out.mono ?_;rintro e w' ⟨rfl,rfl⟩;go_wp2_with fail;refine H2.out.mono ?_;rintro e w' ⟨rfl,rfl⟩;by_cases hqp:q<p
      . have agH:(q:Int)<(p:Int):=by omega
        go_wp2;go_ret;have:=Hgt.out hqp;exact⟨by unfold dh;rw[if_neg zo,if_pos this];rfl,rfl⟩
      . have agH:¬(q:Int)<(p:Int):=by omega
        go_wp2;refine⟨⟨j,by omega,EU.out zo,by go_num⟩,by simp[intOf]⟩
  . obtain rfl:k=0:=by omega
    have he:v=u:=by simpa using mZ.out
    go_wp2;go_ret;exact⟨by unfold dh;rw[if_neg zo,if_neg zo];rfl,rfl⟩
theorem Yg (x y:Value)(n m v u:Nat)(w:World)(hx:Bv w x n v)(hy:Bv w y m u)(hn:n<=1099511627776)(hm:m<=1099511627776)(ue:u<=v):
 Calls Tryz.prog 159 #[x,y] w λe w'=>(∃z,e=.returned z/\Bv w' z n (v-u)/\Cm z w.heap.size)/\Bw w w':=by
 obtain⟨a,cap,jI⟩:=hx.len;obtain⟨a',cap',DU⟩:=hy.len;have oz:=λW (hW:Bw w W) i (hi:i<=1099511627776)=>AB x n v i W (hx.below hW) hi hn;have hby:=λW (hW:Bw w W) i (hi:i<=1099511627776)=>AB y m u i W (hy.below hW) hi hm;have tH:Hid (v-u<2^n):=by show _<_;have:=hx.1;omega
 subst jI;subst DU;obtain⟨Bt,Bu,Ci⟩:=cL oz hby ue;clear oz hby hx hy ue;have hmk:=sD (n:Int) n rfl zo;go_enter Tryz.func159,Tryz.ntmps159;go_wp2_with fail;go_loopw[6,7,8] (λb i _ wr=>∃k:Nat,k<=n/\i=.int .i64 (k:Int)/\b=.int .u8 (bb v u k:Int)/\ak wr w.heap.size 5 (cQ n (λj=>if j<k then bd (v-u) j else 0))/\Bw w wr) (λ_ i _ _=>n-(intOf i).toNat);case atStart=>
  refine⟨0,Nat.zero_le _,rfl,by rw[ac4];rfl,?_,zl⟩;have e:cQ n (λj=>if j<0 then bd (v-u) j else 0)=cQ n λ_=>0:=mS λj hj=>by rw[if_neg zo]
  rw[e];exact ak.new _ _ _
 case round=>
  obtain⟨k,hk,rfl,rfl,hB,hb⟩:=hrel;by_cases hlt:k<n
  . obtain⟨H1,H2⟩:=aL (Bt.out wr hb k zo) (Bu.out wr hb k zo);have hs:=ac3 v u k;have hd:=ac2 v u k Ci.out;have hp:=rK v k;have hq:=rK u k;have hr:=Sj v u k;have hcell:wr.cell? ⟨w.heap.size,k,none⟩=some (.int .u8 0):=by rw[hB.cell,kZ _ _ _ hlt,if_neg zo];rfl
    have hfree:wr.frozen? ⟨w.heap.size,k,none⟩=false:=hB.free _;have bV:=hB.set k (.int .u8 ((bd (v-u) k:Nat):Int))
    rw[yw,mS (g:=λj=>if j<k+1 then bd (v-u) j else 0) λj hj=>by
     by_cases e:j=k
     . subst e;rw[if_pos rfl,if_pos zo]
     . rw[if_neg e];by_cases e2:j<k
       . rw[if_pos e2,if_pos zo]
       . rw[if_neg e2,if_neg zo]]at bV
    obtain⟨eH,Hb⟩:=aL bV (hb.setCell (p:=⟨w.heap.size,k,none⟩) (Nat.le_refl _) (.int .u8 ((bd (v-u) k:Nat):Int)));clear hB bV hb;generalize bd v k=p at*;generalize bd u k=q at*;generalize bb v u k=r at*;generalize bd (v-u) k=z at*;have Hs:=ah hs;clear hs;obtain⟨S,hS⟩:=aB (2+p-q-r);have hS3:S<=3:=by omega
    have hw1:IntKind.u8.wrap (2+(p:Int))=2+(p:Int):=by rw[IntKind.wrap_u8];omega
    have hw2:IntKind.u8.wrap (2+(p:Int)-(q:Int))=2+(p:Int)-(q:Int):=by rw[IntKind.wrap_u8];omega
    have hw3:IntKind.u8.wrap (2+(p:Int)-(q:Int)-(r:Int))=(S:Int):=by rw[IntKind.wrap_u8];omega
    have hand:bits .and .u8 (S:Int) 1=(z:Int):=by rw[KV S zo,<-hd];omega
    obtain⟨HS,Hd⟩:=aL hS hd;clear hS hd;go_wp2_with fail;refine H1.out.mono ?_;rintro e w' ⟨rfl,rfl⟩;go_wp2_with fail;refine H2.out.mono ?_;rintro e w' ⟨rfl,rfl⟩;go_wp2;go_roundw;case rel=>refine⟨k+1,by omega,by go_num,?_,eH.out,Hb.out⟩;rw[Hs.out];have:=HS.out;congr 1;split<;>omega
    case measure=>simp[intOf];omega
  . obtain rfl:k=n:=by omega
    rw[mS (g:=bd (v-u)) λj hj=>by rw[if_pos hj]]at hB;obtain⟨Hz,Hb⟩:=aL (Bv.apk hB tH.out) hb;clear hB hb;go_wp2;go_ret;exact⟨⟨_,rfl,Hz.out,λb o n' c e=>by cases e;exact Nat.le_refl _⟩,Hb.out⟩
end Go.Proofs.YtdaadlblknpipaaGreatDoor
namespace Go.Proofs.YtdaadlblknpipaaGreatDoor
open Go.RowKit
abbrev aK:=List UInt8×Raw
def aN (t:aK):List Value:=[.string (bs t.1),.bool t.2.1,.string (bs t.2.2.1),.int .i64 t.2.2.2]
theorem At.term {w:World}{a:Option Addr}{ts:List aK}(h:At w a (ts.flatMap aN))(k:Nat)(hk:k<ts.length){l:List UInt8}{s:Bool}{m:List UInt8}{e:Int}(hx:ts[k]=(l,s,m,e)):
 ∃b o,a=some ⟨b,o,none⟩/\aV w b (o+k*4) [.string (bs l),.bool s,.string (bs m),.int .i64 e]:=by
 obtain⟨b,o,hab,hcs⟩:=h.elem (f:=aN) (sz:=4) (λ_=>rfl) zd k hk;refine⟨b,o,hab,λj hj=>?_⟩;have:=hcs j hj;rw[hx]at this;rw[this];unfold aN;rw[List.getElem?_eq_getElem (by simpa using hj)]
def CH (V:Int)(l:List UInt8)(x:Raw):Bool:=gA l V&& !(cw (az x)==0)&&(canon (az x)==x)
def qG (V:Int)(ts:List aK)(k:Nat):Bool:=CH V (ts.getD k default).1 (ts.getD k default).2&&(k==0||Op.bytesLess (bs (ts.getD (k-1) default).1).toList (bs (ts.getD k default).1).toList)
def yn (V:Int)(ts:List aK):Int:=if ¬(0<=V/\V<=12)then 1 else if 4096<ts.length then 3 else if(List.range ts.length).all (qG V ts)then 0 else 1
end Go.Proofs.YtdaadlblknpipaaGreatDoor
namespace Go.Proofs.YtdaadlblknpipaaGreatDoor
theorem yU (a:List UInt8):Op.bytesLess a a=false:=by
 induction a with
 |nil=>rfl
 |cons x a ih=>simp[Op.bytesLess,ih]
theorem Cs {a b c:List UInt8}(h:Op.bytesLess a b=true)(k:Op.bytesLess b c=true):Op.bytesLess a c=true:=by
 induction a generalizing b c with
 | nil=>
   cases c with
   |nil=>cases b<;>simp[Op.bytesLess]at k
   |cons z c=>simp[Op.bytesLess]
 | cons x a ih=>
   cases b with
   |nil=>simp[Op.bytesLess]at h
   | cons y b=>
     cases c with
     |nil=>simp[Op.bytesLess]at k
     | cons z c=>
       simp only[Op.bytesLess,Bool.or_eq_true,Bool.and_eq_true,decide_eq_true_eq,beq_iff_eq]at h k⊢;rcases h with h|⟨rfl,h⟩
       . rcases k with k|⟨rfl,k⟩
         . exact .inl (UInt8.lt_trans h k)
         . exact .inl h
       . rcases k with k|⟨rfl,k⟩
         . exact .inl k
         . exact .inr ⟨rfl,ih h k⟩
theorem Ct {a b:List UInt8}(h:Op.bytesLess a b=false)(k:Op.bytesLess b a=false):a=b:=by
 induction a generalizing b with
 | nil=>cases b with
   |nil=>rfl
   |cons y b=>simp[Op.bytesLess]at h
 | cons x a ih=>cases b with
   |nil=>simp[Op.bytesLess]at k
   | cons y b=>
     simp only[Op.bytesLess,Bool.or_eq_false_iff,Bool.and_eq_false_iff,decide_eq_false_iff_not,beq_eq_false_iff_ne]at h k;have e:x=y:=by have h1:=UInt8.not_lt.1 h.1;have h2:=UInt8.not_lt.1 k.1;exact UInt8.le_antisymm h2 h1
     subst e;rw[ih (by rcases h.2 with h|h;exact absurd rfl h;exact h) (by rcases k.2 with h|h;exact absurd rfl h;exact h)]
def Pq (x y:aK):aK:=(x.1,canon (az x.2+az y.2))
def vP :Nat->List aK->List aK->List aK
 |0,a,b=>a++b
 |_+1,[],b=>b
 |_+1,x::a,[]=>x::a
 |k+1,x::a,y::b=>if Op.bytesLess x.1 y.1 then x::vP k a (y::b)else if Op.bytesLess y.1 x.1 then y::vP k (x::a) b else Pq x y::vP k a b
theorem Oa (a b:List aK)(j k:Nat)(hj:a.length+b.length<=j)(hk:a.length+b.length<=k):vP j a b=vP k a b:=by
 induction j generalizing k a b with
 |zero=>have ha:a=[]:=List.length_eq_zero_iff.1 zo;have hb:b=[]:=List.length_eq_zero_iff.1 zo;subst ha;subst hb;cases k<;>rfl
 | succ j ih=>
   cases k with
   |zero=>have ha:a=[]:=List.length_eq_zero_iff.1 zo;have hb:b=[]:=List.length_eq_zero_iff.1 zo;subst ha;subst hb;rfl
   | succ k=>
     cases a with
     |nil=>rfl
     | cons x a=>cases b with
       |nil=>rfl
       |cons y b=>simp only[List.length_cons]at hj hk;simp only[vP];rw[ih a (y::b) k zi zi,ih (x::a) b k zi zi,ih a b k zo zo]
def gQ (a b:List aK):List aK:=vP (a.length+b.length) a b
theorem Ai (b:List aK):gQ [] b=b:=by
 unfold gQ;cases b with
 |nil=>rfl
 |cons y b=>rfl
theorem Aj (a:List aK):gQ a []=a:=by
 unfold gQ;cases a with
 |nil=>rfl
 |cons y b=>rfl
theorem vQ (x y:aK)(a b:List aK):gQ (x::a) (y::b)=if Op.bytesLess x.1 y.1 then x::gQ a (y::b)else if Op.bytesLess y.1 x.1 then y::gQ (x::a) b else Pq x y::gQ a b:=by
 unfold gQ;rw[show(x::a).length+(y::b).length=(a.length+b.length+1)+1 by simp;omega];simp only[vP]
 rw[Oa a (y::b) (a.length+b.length+1) (a.length+(y::b).length) zi zm,Oa (x::a) b (a.length+b.length+1) ((x::a).length+b.length) zi zm,
  Oa a b (a.length+b.length+1) (a.length+b.length) zo zo]
theorem Xo (a b:List aK):(gQ a b).length<=a.length+b.length:=by
 obtain⟨n,hn⟩:=aB (a.length+b.length);induction n using Nat.strongRecOn generalizing a b with
 | _ n ih=>
   cases a with
   |nil=>rw[Ai];simp
   | cons x a=>cases b with
     |nil=>rw[Aj];simp
     | cons y b=>
       rw[vQ];simp only[List.length_cons]at hn⊢;split
       . have:=ih _ (by simp only[List.length_cons];omega) a (y::b) rfl;simp only[List.length_cons]at this⊢;omega
       . split
         . have:=ih _ (by simp only[List.length_cons];omega) (x::a) b rfl;simp only[List.length_cons]at this⊢;omega
         . have:=ih _ zo a b rfl;simp only[List.length_cons]at this⊢;omega
def cj :List aK->List UInt8->Dyadic
 |[],_=>0
 |x::l,m=>(if x.1=m then az x.2 else 0)+cj l m
theorem xj (a b:List aK)(m:List UInt8):cj (a++b) m=cj a m+cj b m:=by
 induction a with
 |nil=>simp[cj]
 |cons x a ih=>simp only[List.cons_append,cj,ih];grind
theorem SC (a b:List aK)(m:List UInt8):cj (gQ a b) m=cj a m+cj b m:=by
 obtain⟨n,hn⟩:=aB (a.length+b.length);induction n using Nat.strongRecOn generalizing a b with
 | _ n ih=>
   cases a with
   |nil=>rw[Ai];simp[cj]
   | cons x a=>cases b with
     |nil=>rw[Aj];simp[cj]
     | cons y b=>
       rw[vQ];simp only[List.length_cons]at hn;split
       . have:=ih _ (by simp only[List.length_cons];omega) a (y::b) rfl;simp only[cj]at this⊢;rw[this];grind
       . split
         . have:=ih _ (by simp only[List.length_cons];omega) (x::a) b rfl;simp only[cj]at this⊢;rw[this];grind
         . rename_i h1 h2
           have:=ih _ zo a b rfl;have e:x.1=y.1:=Ct (by simpa using h1) (by simpa using h2);simp only[cj,Pq,bU]at this⊢;rw[this,e];split<;>grind
def Up (l:List aK):Prop:=l.Pairwise λx y=>Op.bytesLess x.1 y.1=true
theorem Iz (a b:List aK):∀x∈gQ a b,∃y∈a++b,y.1=x.1:=by
 obtain⟨n,hn⟩:=aB (a.length+b.length);induction n using Nat.strongRecOn generalizing a b with
 | _ n ih=>
   intro z hz;cases a with
   |nil=>rw[Ai]at hz;exact⟨z,by simp[hz],rfl⟩
   | cons x a=>cases b with
     |nil=>rw[Aj]at hz;exact⟨z,by simpa using hz,rfl⟩
     | cons y b=>
       rw[vQ]at hz;simp only[List.length_cons]at hn;split at hz
       . rcases List.mem_cons.1 hz with rfl|hz
         . exact⟨z,by simp,rfl⟩
         . obtain⟨u,hu,e⟩:=ih _ (by simp only[List.length_cons];omega) a (y::b) rfl z hz;exact⟨u,by simp at hu⊢;rcases hu with h|h|h<;>simp[h],e⟩
       . split at hz
         . rcases List.mem_cons.1 hz with rfl|hz
           . exact⟨z,by simp,rfl⟩
           . obtain⟨u,hu,e⟩:=ih _ (by simp only[List.length_cons];omega) (x::a) b rfl z hz;exact⟨u,by simp at hu⊢;rcases hu with h|h|h<;>simp[h],e⟩
         . rcases List.mem_cons.1 hz with rfl|hz
           . exact⟨x,by simp,rfl⟩
           . obtain⟨u,hu,e⟩:=ih _ zo a b rfl z hz;exact⟨u,by simp at hu⊢;rcases hu with h|h<;>simp[h],e⟩
theorem aii (a b:List aK)(ha:Up a)(hb:Up b):Up (gQ a b):=by
 obtain⟨n,hn⟩:=aB (a.length+b.length);induction n using Nat.strongRecOn generalizing a b with
 | _ n ih=>
   cases a with
   |nil=>rw[Ai];exact hb
   | cons x a=>cases b with
     |nil=>rw[Aj];exact ha
     | cons y b=>
       rw[vQ];simp only[List.length_cons]at hn;obtain⟨ha1,ha2⟩:=List.pairwise_cons.1 ha;obtain⟨hb1,hb2⟩:=List.pairwise_cons.1 hb;split
       . rename_i h
         refine List.pairwise_cons.2 ⟨λz hz=>?_,ih _ (by simp only[List.length_cons];omega) a (y::b) ha2 hb rfl⟩;obtain⟨u,hu,e⟩:=Iz _ _ z hz;rw[<-e];rcases List.mem_append.1 hu with h2|h2
         . exact ha1 u h2
         . rcases List.mem_cons.1 h2 with rfl|h2
           . exact h
           . exact Cs h (hb1 u h2)
       . split
         . rename_i h0 h
           refine List.pairwise_cons.2 ⟨λz hz=>?_,ih _ (by simp only[List.length_cons];omega) (x::a) b ha hb2 rfl⟩;obtain⟨u,hu,e⟩:=Iz _ _ z hz;rw[<-e];rcases List.mem_append.1 hu with h2|h2
           . rcases List.mem_cons.1 h2 with rfl|h2
             . exact h
             . exact Cs h (ha1 u h2)
           . exact hb1 u h2
         . rename_i h1 h2
           have e:x.1=y.1:=Ct (by simpa using h1) (by simpa using h2);refine List.pairwise_cons.2 ⟨λz hz=>?_,ih _ zo a b ha2 hb2 rfl⟩;obtain⟨u,hu,e2⟩:=Iz _ _ z hz;rw[<-e2];show Op.bytesLess x.1 u.1=true
           rcases List.mem_append.1 hu with h3|h3
           . exact ha1 u h3
           . rw[e];exact hb1 u h3
def sO :Nat->List aK->List aK
 |0,l=>l
 |k+1,l=>if l.length<2 then l else gQ (sO k (l.take (l.length/2))) (sO k (l.drop (l.length/2)))
theorem Yx (l:List aK)(j k:Nat)(hj:l.length<=j)(hk:l.length<=k):sO j l=sO k l:=by
 induction j generalizing k l with
 |zero=>have h:l=[]:=List.length_eq_zero_iff.1 zo;subst h;cases k<;>simp[sO]
 | succ j ih=>
   cases k with
   |zero=>have h:l=[]:=List.length_eq_zero_iff.1 zo;subst h;simp[sO]
   | succ k=>
     simp only[sO];split
     . rfl
     . rw[ih (l.take (l.length/2)) k zi zi,ih (l.drop (l.length/2)) k zi zi]
def gU (l:List aK):List aK:=sO l.length l
theorem IP (l:List aK)(h:l.length<2):gU l=l:=by
 unfold gU;cases l with
 |nil=>rfl
 |cons x l=>simp only[List.length_cons,sO];rw[if_pos (by simpa using h)]
theorem Po (l:List aK)(h:2<=l.length):gU l=gQ (gU (l.take (l.length/2))) (gU (l.drop (l.length/2))):=by obtain⟨k,hk⟩:∃k,l.length=k+1:=⟨l.length-1,by omega⟩;unfold gU;rw[hk];simp only[sO];rw[if_neg zo,hk,Yx (l.take ((k+1)/2)) k ((l.take ((k+1)/2)).length) zi (Nat.le_refl _),Yx (l.drop ((k+1)/2)) k ((l.drop ((k+1)/2)).length) zi (Nat.le_refl _)]
theorem IL {Q:List aK->List aK->Prop}(h0:∀l,l.length<2->Q l l)(h1:∀a b c d,Q a c->Q b d->Q (a++b) (gQ c d))(l:List aK):Q l (gU l):=by
 obtain⟨n,hn⟩:=aB l.length;induction n using Nat.strongRecOn generalizing l with
 | _ n ih=>
   by_cases h:l.length<2
   . rw[IP l h];exact h0 l h
   . rw[Po l zo];have:=h1 _ _ _ _ (ih (l.take (l.length/2)).length zi (l.take (l.length/2)) rfl) (ih (l.drop (l.length/2)).length zi (l.drop (l.length/2)) rfl);rwa [List.take_append_drop]at this
theorem adZ (l:List aK)(m:List UInt8):cj (gU l) m=cj l m:=
 IL (Q:=λl r=>cj r m=cj l m) (λ_ _=>rfl) (λa b c d h1 h2=>by rw[SC,xj,h1,h2]) l
theorem akW (l:List aK):Up (gU l):=
 IL (Q:=λ_ r=>Up r) (λl h=>by
  cases l with
  |nil=>exact List.Pairwise.nil
  | cons x l=>cases l with
    |nil=>exact List.pairwise_singleton _ _
    |cons y l=>simp at h;omega) (λa b c d h1 h2=>aii c d h1 h2) l
theorem IM (l:List aK):(gU l).length<=l.length:=
 IL (Q:=λl r=>r.length<=l.length) (λ_ _=>Nat.le_refl _) (λa b c d h1 h2=>by have:=Xo c d;simp;omega) l
theorem akV (l:List aK):∀x∈gU l,∃y∈l,y.1=x.1:=
 IL (Q:=λl r=>∀x∈r,∃y∈l,y.1=x.1) (λl _ x hx=>⟨x,hx,rfl⟩) (λa b c d h1 h2 x hx=>by
  obtain⟨y,hy,e⟩:=Iz c d x hx;rcases List.mem_append.1 hy with h|h
  . obtain⟨z,hz,e2⟩:=h1 y h;exact⟨z,by simp[hz],e2.trans e⟩
  . obtain⟨z,hz,e2⟩:=h2 y h;exact⟨z,by simp[hz],e2.trans e⟩) l
def ic (x:aK):Bool:=!(cw (az x.2)==0)
def bR (l:List aK):List aK:=((gU l).filter ic).map λx=>(x.1,canon (az x.2))
def Good (l:List aK):Prop:=Up l/\∀x∈l,az x.2≠0/\x.2=canon (az x.2)
theorem xo (X:Dyadic):(cw X==0)=false↔X≠0:=by
 have h:cw X=0↔X=0:=by
  constructor
  . intro h;have h1:dN X=0:=by
     unfold cw eu at h;by_cases h1:dN X<0
     . rw[if_pos h1]at h;cases h
     . rw[if_neg h1]at h;by_cases h2:dN X=0
       . exact h2
       . rw[if_neg h2]at h;cases h
    have h2:=sK X;rw[h1,vX]at h2;exact h2
  . rintro rfl;rfl
 rw[beq_eq_false_iff_ne];exact not_congr h
theorem SB (l:List aK)(m:List UInt8):cj (l.filter ic) m=cj l m:=by
 induction l with
 |nil=>rfl
 | cons x l ih=>
   rw[List.filter_cons];split
   . simp only[cj,ih]
   . rename_i h
     have h0:az x.2=0:=Classical.byContradiction λhc=>h (by unfold ic;rw[(xo _).2 hc];rfl);simp only[cj,ih,h0];split<;>grind
theorem adU (l:List aK)(m:List UInt8):cj (l.map λx=>(x.1,canon (az x.2))) m=cj l m:=by
 induction l with
 |nil=>rfl
 |cons x l ih=>simp only[List.map_cons,cj,ih,bU]
theorem rL (l:List aK)(m:List UInt8):cj (bR l) m=cj l m:=by unfold bR;rw[adU,SB,adZ]
theorem aly {l:List aK}(h:Up l):Up (l.map λx=>(x.1,canon (az x.2))):=List.Pairwise.map _ (λ_ _ h=>h) h
theorem afr (l:List aK)(h:Up l):Good ((l.filter ic).map λx=>(x.1,canon (az x.2))):=by
 refine⟨aly (List.Pairwise.filter _ h),λx hx=>?_⟩;obtain⟨y,hy,rfl⟩:=List.mem_map.1 hx;have h2:=(List.mem_filter.1 hy).2;unfold ic at h2;refine⟨?_,?_⟩
 . show az (canon (az y.2))≠0
   rw[bU];exact(xo _).1 (by simpa using h2)
 . show canon (az y.2)=canon (az (canon (az y.2)))
   rw[bU]
theorem yZ (l:List aK):Good (bR l):=afr _ (akW l)
theorem za (l:List aK):(bR l).length<=l.length:=by unfold bR;rw[List.length_map];exact Nat.le_trans (List.length_filter_le _ _) (IM l)
theorem SD (l:List aK)(m:List UInt8)(h:∀x∈l,x.1≠m):cj l m=0:=by
 induction l with
 |nil=>rfl
 |cons x l ih=>simp only[cj];rw[if_neg (h x zm),ih (λy hy=>h y (by simp[hy]))];grind
theorem Good.tail {x:aK}{l:List aK}(h:Good (x::l)):Good l:=⟨(List.pairwise_cons.1 h.1).2,λy hy=>h.2 y (by simp[hy])⟩
theorem Good.off {x:aK}{l:List aK}(h:Good (x::l)):cj l x.1=0:=by refine SD _ _ (λy hy e=>?_);have:=(List.pairwise_cons.1 h.1).1 y hy;rw[e,yU]at this;cases this
theorem Good.head {x:aK}{l:List aK}(h:Good (x::l)):cj (x::l) x.1=az x.2:=by simp only[cj,if_pos,h.off];grind
theorem Good.before {x y:aK}{l:List aK}(h:Good (y::l))(hx:Op.bytesLess x.1 y.1=true):cj (y::l) x.1=0:=by
 refine SD _ _ (λz hz e=>?_);rcases List.mem_cons.1 hz with rfl|hz
 . rw[e,yU]at hx;cases hx
 . have:=Cs hx ((List.pairwise_cons.1 h.1).1 z hz);rw[e,yU]at this;cases this
theorem Tu {a b:List aK}(ha:Good a)(hb:Good b)(h:∀m,cj a m=cj b m):a=b:=by
 induction a generalizing b with
 | nil=>
   cases b with
   |nil=>rfl
   |cons y b=>have:=h y.1;rw[hb.head]at this;exact absurd this.symm (hb.2 y zm).1
 | cons x a ih=>
   cases b with
   |nil=>have:=h x.1;rw[ha.head]at this;exact absurd this (ha.2 x zm).1
   | cons y b=>
     have h1:Op.bytesLess x.1 y.1=false:=by
      cases hc:Op.bytesLess x.1 y.1 with
      |false=>rfl
      |true=>have:=h x.1;rw[ha.head,hb.before hc]at this;exact absurd this (ha.2 x zm).1
     have h2:Op.bytesLess y.1 x.1=false:=by
      cases hc:Op.bytesLess y.1 x.1 with
      |false=>rfl
      |true=>have:=h y.1;rw[hb.head,ha.before hc]at this;exact absurd this.symm (hb.2 y zm).1
     have e1:x.1=y.1:=Ct h1 h2;have e2:az x.2=az y.2:=by have:=h x.1;rw[ha.head]at this;rw[this,e1,hb.head]
     have e3:x=y:=by refine Prod.ext e1 ?_;rw[(ha.2 x zm).2,(hb.2 y zm).2,e2]
     subst e3
     rw[ih ha.tail hb.tail (λm=>by
      have:=h m;simp only[cj]at this;generalize (if x.1=m then az x.2 else 0)=u at this
      grind)]
def Cn (V:Nat)(ts:List aK):Prop:=Good ts/\(∀t∈ts,gA t.1 V=true)/\ts.length<=4096/\V<=12
theorem XL {V:Nat}{ts:List aK}(h:Cn V ts):yn V ts=0:=by
 obtain⟨⟨h1,h2⟩,h3,h4,h5⟩:=h;unfold yn;rw[if_neg zo,if_neg zo,if_pos];rw[List.all_eq_true];intro k hk;have hk:k<ts.length:=by simpa using hk
 have e:ts.getD k default=ts[k]:=by simp[hk]
 have hm:=List.getElem_mem hk;unfold qG CH;rw[e,h3 _ hm,(xo _).2 (h2 _ hm).1];have e2:(canon (az ts[k].2)==ts[k].2)=true:=by rw[beq_iff_eq];exact(h2 _ hm).2.symm
 rw[e2];by_cases h0:k=0
 . simp[h0]
 . have hk1:k-1<ts.length:=by omega
   have e3:ts.getD (k-1) default=ts[k-1]:=by simp[hk1]
   have:=List.pairwise_iff_getElem.1 h1 (k-1) k hk1 hk zo;rw[e3,gq,gq,this];simp
theorem Good.apz {l:List aK}(h:Good l):∀t∈l,az t.2=cj l t.1:=by
 induction l with
 |nil=>intro t ht;cases ht
 | cons x l ih=>
   intro t ht;rcases List.mem_cons.1 ht with rfl|ht
   . exact h.head.symm
   . have hne:¬x.1=t.1:=λe=>by have:=(List.pairwise_cons.1 h.1).1 t ht;rw[e,yU]at this;cases this
     simp only[cj,if_neg hne,ih h.tail t ht];grind
theorem adY {B:Nat}{l:List aK}(h:∀x∈l,Sm B (az x.2))(m:List UInt8):Sm (B+l.length) (cj l m):=by
 induction l with
 |nil=>exact Sm.zero _
 | cons x l ih=>
   have h1:=ih (λy hy=>h y (by simp[hy]));have h2:Sm B (if x.1=m then az x.2 else 0):=by
    split
    . exact h x zm
    . exact Sm.zero _
   exact((h2.mono (show B<=B+l.length by omega)).add h1).mono zi
theorem adR {B:Nat}{l:List aK}(h:∀x∈l,Sm B (az x.2)):∀t∈bR l,Sm (B+l.length) (az t.2):=by intro t ht;rw[(yZ l).apz t ht,rL];exact adY h _
theorem adP (l:List aK):∀x∈bR l,∃y∈l,y.1=x.1:=by intro x hx;unfold bR at hx;obtain⟨y,hy,rfl⟩:=List.mem_map.1 hx;exact akV l y (List.mem_filter.1 hy).1
theorem adQ {V:Nat}{l:List aK}(hV:V<=12)(hm:∀t∈l,gA t.1 V=true)(hl:l.length<=4096):Cn V (bR l):=
 ⟨yZ l,λt ht=>by obtain⟨y,hy,e⟩:=adP l t ht;rw[<-e];exact hm y hy,Nat.le_trans (za l) hl,hV⟩
theorem yY {a b:List aK}(h:∀m,cj a m=cj b m):bR a=bR b:=Tu (yZ a) (yZ b) (λm=>by rw[rL,rL,h m])
theorem adO (a b:List aK):bR (bR a++bR b)=bR (a++b):=yY (λm=>by rw[xj,xj,rL,rL])
def dX (c:Dyadic)(l:List aK):List aK:=l.map λx=>(x.1,canon (az x.2*c))
theorem SE (c:Dyadic)(l:List aK)(m:List UInt8):cj (dX c l) m=cj l m*c:=by
 induction l with
 |nil=>simp[dX,cj]
 |cons x l ih=>simp only[dX,List.map_cons,cj]at ih⊢;rw[ih,bU];split<;>grind
def rC (n:Nat):List UInt8:=List.replicate n 0
def dw (n k:Nat):List UInt8:=(List.replicate n 0).set k 1
theorem Zf (n:Nat):gA (rC n) n=true:=by unfold gA rC;rw[Bool.and_eq_true];refine⟨?_,by simp⟩;rw[List.all_eq_true];intro c hc;rw[(List.mem_replicate.1 hc).2];rfl
theorem PD (n k:Nat):gA (dw n k) n=true:=by
 unfold gA dw;rw[Bool.and_eq_true];refine⟨?_,by simp⟩;rw[List.all_eq_true];intro c hc;rcases List.mem_or_eq_of_mem_set hc with h|h
 . rw[(List.mem_replicate.1 h).2];rfl
 . rw[h];rfl
def iE (n:Nat)(c:Dyadic)(l:Nat->Dyadic)(k:Nat):List aK:=(rC n,canon c)::(List.range k).map λj=>(dw n j,canon (l j))
def fA (n:Nat)(c:Dyadic)(l:Nat->Dyadic)(k:Nat):List aK:=bR (iE n c l k)
theorem DW (n:Nat)(c:Dyadic)(l:Nat->Dyadic)(k:Nat):(iE n c l k).length=k+1:=by simp[iE]
theorem ahx (n:Nat)(c:Dyadic)(l:Nat->Dyadic)(k:Nat):∀t∈iE n c l k,gA t.1 n=true:=by
 intro t ht;unfold iE at ht;rcases List.mem_cons.1 ht with rfl|ht
 . exact Zf n
 . obtain⟨j,_,rfl⟩:=List.mem_map.1 ht;exact PD n j
theorem ahy {B:Nat}(n:Nat)(c:Dyadic)(l:Nat->Dyadic)(k:Nat)(hc:Sm B c)(hl:∀j,j<k->Sm B (l j)):∀t∈iE n c l k,Sm B (az t.2):=by
 intro t ht;unfold iE at ht;rcases List.mem_cons.1 ht with rfl|ht
 . show Sm B (az (canon c));rw[bU];exact hc
 . obtain⟨j,hj,rfl⟩:=List.mem_map.1 ht;show Sm B (az (canon (l j)));rw[bU];exact hl j (by simpa using hj)
theorem WP (n:Nat)(c:Dyadic)(l:Nat->Dyadic)(k:Nat):iE n c l (k+1)=iE n c l k++[(dw n k,canon (l k))]:=by unfold iE;rw[List.range_succ,List.map_append];rfl
theorem FP (n:Nat)(c:Dyadic)(l:Nat->Dyadic)(k:Nat)(m:List UInt8):cj (iE n c l (k+1)) m=cj (iE n c l k) m+if dw n k=m then l k else 0:=by rw[WP,xj];simp only[cj,bU];grind
theorem ahz (n:Nat)(c:Dyadic)(l:Nat->Dyadic)(k:Nat):bR (fA n c l k++bR [(dw n k,canon (l k))])=fA n c l (k+1):=by unfold fA;rw[adO,WP]
theorem adT (n:Nat)(c d:Dyadic)(l r:Nat->Dyadic)(u v:Dyadic)(k:Nat)(m:List UInt8):cj (iE n (c*u+d*v) (λj=>l j*u+r j*v) k) m=cj (iE n c l k) m*u+cj (iE n d r k) m*v:=by
 induction k with
 |zero=>simp[iE,cj,bU];split<;>grind
 |succ k ih=>rw[FP,ih,FP,FP];split<;>grind
theorem ahw {n:Nat}{c d:Dyadic}{l r:Nat->Dyadic}(k:Nat)(hc:c=d)(h:∀j,j<k->l j=r j):iE n c l k=iE n d r k:=by unfold iE;rw[hc];congr 1;refine List.map_congr_left λj hj=>?_;rw[h j (by simpa using hj)]
theorem ahA (n:Nat)(c d:Dyadic)(l r:Nat->Dyadic)(k:Nat):bR (fA n c l k++bR (dX (-1) (fA n d r k)))=fA n (c-d) (λj=>l j-r j) k:=by unfold fA;refine yY (λm=>?_);rw[xj,rL,rL,SE,rL];have h:=adT n c d l r 1 (-1) k m;rw[ahw (d:=c-d) (r:=λj=>l j-r j) k (by grind) (λj _=>by grind)]at h;rw[h];grind
def iy (m:List UInt8):List aK->Nat
 |[]=>0
 |x::l=>if Op.bytesLess x.1 m then iy m l+1 else 0
theorem ack (m:List UInt8)(l:List aK):iy m l<=l.length:=by
 induction l with
 |nil=>exact Nat.le_refl _
 |cons x l ih=>unfold iy;split<;>simp<;>omega
def gT (l:List aK)(x:aK):List aK:=match l with
 |[]=>[(x.1,canon (az x.2))]
 |y::l=>if Op.bytesLess y.1 x.1 then y::gT l x else if y.1=x.1 then(x.1,canon (az y.2+az x.2))::l else(x.1,canon (az x.2))::y::l
theorem XP (l:List aK)(x:aK):gT l x=l.take (iy x.1 l)++(if(l.drop (iy x.1 l)).head?.map (·.1)=some x.1 then(x.1,canon (az ((l.drop (iy x.1 l)).headD default).2+az x.2))::l.drop (iy x.1 l+1)else(x.1,canon (az x.2))::l.drop (iy x.1 l)):=by
 induction l with
 |nil=>simp[gT,iy]
 | cons y l ih=>
   unfold gT iy;by_cases h:Op.bytesLess y.1 x.1=true
   . rw[if_pos h,if_pos h,ih,show List.drop (iy x.1 l+1) (y::l)=List.drop (iy x.1 l) l from rfl,show List.drop (iy x.1 l+1+1) (y::l)=List.drop (iy x.1 l+1) l from rfl,List.take_succ_cons,List.cons_append]
   . rw[if_neg h,if_neg h];by_cases e:y.1=x.1
     . rw[if_pos e];simp[e]
     . rw[if_neg e];simp[e]
theorem adW (l:List aK)(x:aK)(m:List UInt8):cj (gT l x) m=cj l m+if x.1=m then az x.2 else 0:=by
 induction l with
 |nil=>simp only[gT,cj,bU];grind
 | cons y l ih=>
   unfold gT;split
   . simp only[cj,ih];grind
   . split
     . rename_i h e
       simp only[cj,bU,e];split<;>grind
     . simp only[cj,bU];grind
theorem ajC (l:List aK)(x:aK):∀y∈gT l x,y.1=x.1\/∃z∈l,z.1=y.1:=by
 induction l with
 |nil=>intro y hy;simp only[gT,List.mem_singleton]at hy;rw[hy];exact .inl rfl
 | cons z l ih=>
   intro y hy;unfold gT at hy;split at hy
   . rcases List.mem_cons.1 hy with rfl|hy
     . exact .inr ⟨y,by simp,rfl⟩
     . rcases ih y hy with h|⟨u,hu,e⟩
       . exact .inl h
       . exact .inr ⟨u,by simp[hu],e⟩
   . split at hy
     . rcases List.mem_cons.1 hy with rfl|hy
       . exact .inl rfl
       . exact .inr ⟨y,by simp[hy],rfl⟩
     . rcases List.mem_cons.1 hy with rfl|hy
       . exact .inl rfl
       . exact .inr ⟨y,hy,rfl⟩
theorem ajF (l:List aK)(x:aK)(h:Up l):Up (gT l x):=by
 induction l with
 |nil=>exact List.pairwise_singleton _ _
 | cons y l ih=>
   obtain⟨h1,h2⟩:=List.pairwise_cons.1 h;unfold gT;split
   . rename_i hy
     refine List.pairwise_cons.2 ⟨λz hz=>?_,ih h2⟩;rcases ajC l x z hz with e|⟨u,hu,e⟩
     . rw[e];exact hy
     . rw[<-e];exact h1 u hu
   . rename_i hy
     split
     . rename_i e
       refine List.pairwise_cons.2 ⟨λz hz=>?_,h2⟩;show Op.bytesLess x.1 z.1=true
       rw[<-e];exact h1 z hz
     . rename_i e
       have hlt:Op.bytesLess x.1 y.1=true:=by
        cases hc:Op.bytesLess x.1 y.1 with
        |true=>rfl
        |false=>exact absurd (Ct (by simpa using hy) hc) e
       refine List.pairwise_cons.2 ⟨λz hz=>?_,h⟩;show Op.bytesLess x.1 z.1=true
       rcases List.mem_cons.1 hz with rfl|hz
       . exact hlt
       . exact Cs hlt (h1 z hz)
theorem ajB (l:List aK)(x:aK):(gT l x).length<=l.length+1:=by
 induction l with
 |nil=>exact Nat.le_refl _
 | cons y l ih=>
   unfold gT;split
   . simp only[List.length_cons];omega
   . split<;>simp
def iu (l:List aK):List aK:=l.foldl gT []
theorem Ax (l:List aK)(x:aK):iu (l++[x])=gT (iu l) x:=by unfold iu;rw[List.foldl_append];rfl
theorem Ex {Q:List aK->Prop}(h0:Q [])(h1:∀l x,Q l->Q (l++[x]))(l:List aK):Q l:=by
 have h:∀r:List aK,Q r.reverse:=by
  intro r;induction r with
  |nil=>exact h0
  |cons x r ih=>rw[List.reverse_cons];exact h1 _ _ ih
 have:=h l.reverse;rwa [List.reverse_reverse]at this
theorem ajJ (l:List aK):Up (iu l):=Ex (Q:=λl=>Up (iu l)) List.Pairwise.nil (λl x ih=>by rw[Ax];exact ajF _ _ ih) l
theorem adX (l:List aK)(m:List UInt8):cj (iu l) m=cj l m:=Ex (Q:=λl=>cj (iu l) m=cj l m) rfl (λl x ih=>by rw[Ax,adW,ih,xj];simp only[cj];grind) l
theorem ajH (l:List aK):(iu l).length<=l.length:=Ex (Q:=λl=>(iu l).length<=l.length) (Nat.le_refl _) (λl x ih=>by rw[Ax];have:=ajB (iu l) x;simp;omega) l
theorem ajA (l:List aK)(x:aK)(h:∀t∈l,t.2=canon (az t.2)):∀t∈gT l x,t.2=canon (az t.2):=by
 have hc:∀X:Dyadic,canon X=canon (az (canon X)):=λX=>by rw[bU]
 induction l with
 |nil=>intro t ht;simp only[gT,List.mem_singleton]at ht;rw[ht];exact hc _
 | cons y l ih=>
   intro t ht;unfold gT at ht;split at ht
   . rcases List.mem_cons.1 ht with rfl|ht
     . exact h _ zm
     . exact ih (λt ht=>h t (by simp[ht])) t ht
   . split at ht
     . rcases List.mem_cons.1 ht with rfl|ht
       . exact hc _
       . exact h t (by simp[ht])
     . rcases List.mem_cons.1 ht with rfl|ht
       . exact hc _
       . exact h t ht
theorem XQ (l:List aK):∀t∈iu l,t.2=canon (az t.2):=Ex (Q:=λl=>∀t∈iu l,t.2=canon (az t.2)) (λt ht=>by cases ht) (λl x ih=>by rw[Ax];exact ajA _ _ ih) l
theorem afp (l:List aK):(iu l).filter ic=bR l:=by refine Tu ⟨List.Pairwise.filter _ (ajJ l),λx hx=>?_⟩ (yZ l) (λm=>by rw[SB,adX,rL]);obtain⟨h1,h2⟩:=List.mem_filter.1 hx;refine⟨(xo _).1 ?_,XQ l x h1⟩;unfold ic at h2;simpa using h2
end Go.Proofs.YtdaadlblknpipaaGreatDoor
namespace Go.Proofs.YtdaadlblknpipaaGreatDoor
open Go.RowKit
attribute [local go_sem ↓] Go.wp_at_zero Go.wp_at_succ
def uo (a b:List UInt8):Int:=if Op.bytesLess a b then-1 else if Op.bytesLess b a then 1 else 0
theorem akL (l:List UInt8)(s:Bool)(m:List UInt8)(e:Int)(l':List UInt8)(s':Bool)(m':List UInt8)(e':Int)(w:World):
 Calls Tryz.prog 100 #[.agg #[.string (bs l),.bool s,.string (bs m),.int .i64 e],.agg #[.string (bs l'),.bool s',.string (bs m'),.int .i64 e']] w λex w'=>ex=.returned (.int .i64 (uo l l'))/\Bw w w':=by
 obtain⟨R,hR⟩:=aB (uo l l');unfold uo at hR;rw[show uo l l'=R from hR];obtain⟨W,dc,Hb,Hx,Hy⟩:=nO w 107 [.string (bs l),.bool s,.string (bs m),.int .i64 e] 107 [.string (bs l'),.bool s',.string (bs m'),.int .i64 e'];obtain⟨x0,x1,x2,x3⟩:=Hx.out.c4;obtain⟨y0,y1,y2,y3⟩:=Hy.out.c4;cases h1:Op.bytesLess l l' with
 | true=>
   rw[h1]at hR;simp only[if_true]at hR;subst hR;have h2:Op.bytesLess (bs l).toList (bs l').toList=true:=by rw[gq,gq];exact h1
   clear h1;go_enter Tryz.func100,Tryz.ntmps100;go_wp2;go_ret;exact⟨rfl,Hb.out⟩
 | false=>
   rw[h1]at hR;simp only[Bool.false_eq_true,if_false]at hR;have h2:Op.bytesLess (bs l).toList (bs l').toList=false:=by rw[gq,gq];exact h1
   cases h3:Op.bytesLess l' l with
   | true=>
     rw[h3]at hR;simp only[if_true]at hR;subst hR;have hne:¬l=l':=by rintro rfl;rw[yU]at h3;cases h3
     have h4:((bs l).toList==(bs l').toList)=false:=by rw[gq,gq];simpa using hne
     have h5:¬(bs l).toList=(bs l').toList:=by rw[gq,gq];exact hne
     clear h1 h3 hne;go_enter Tryz.func100,Tryz.ntmps100;go_wp2;go_ret;exact⟨rfl,Hb.out⟩
   |false=>rw[h3]at hR;simp only[Bool.false_eq_true,if_false]at hR;subst hR;obtain rfl:=Ct h1 h3;clear h1 h3;go_enter Tryz.func100,Tryz.ntmps100;go_wp2;go_ret;exact⟨rfl,Hb.out⟩
theorem ak1 (l:List UInt8)(s:Bool)(m:List UInt8)(e:Int)(l':List UInt8)(s':Bool)(m':List UInt8)(e':Int)(S:Dyadic)(B:Nat)(hS:az (s,m,e)+az (s',m',e')=S)(w:World)(hx:Fit B (s,m,e))(hy:Fit B (s',m',e'))(hB:B+2<=268435456)(hT:aF w):
 Calls Tryz.prog 101 #[.agg #[.string (bs l),.bool s,.string (bs m),.int .i64 e],.agg #[.string (bs l'),.bool s',.string (bs m'),.int .i64 e']] w λex w'=>ex=.returned (.agg #[.string (bs l),.bool (ar (dN S)),.string (bs (nt (dN S).natAbs)),.int .i64 (dE S)])/\Bw w w':=by
 obtain⟨iW,mn,HS,HT⟩:=dW hx hy hS hT;clear hx hy hS hT;obtain⟨W,dc,Hb,Hx,Hy,Hr⟩:=rq w 107 [.string (bs l),.bool s,.string (bs m),.int .i64 e] 107 [.string (bs l'),.bool s',.string (bs m'),.int .i64 e'] 107 [.string ⟨#[]⟩,.bool false,.string ⟨#[]⟩,.int .i64 0];obtain⟨x0,x1,x2,x3⟩:=Hx.out.c4;obtain⟨y0,y1,y2,y3⟩:=Hy.out.c4;obtain⟨r0,ai,r1,aj,r2,aC,r3,cZ⟩:=Hr.out.g4;go_enter Tryz.func101,Tryz.ntmps101;go_wp2_with fail;refine bJ (λw'=>w'.cell? ⟨w.heap.size,0,none⟩=some (.string (bs l))/\w'.cell? ⟨w.heap.size,1,none⟩=some (.bool s)/\w'.cell? ⟨w.heap.size,2,none⟩=some (.string (bs m))/\w'.cell? ⟨w.heap.size,3,none⟩=some (.int .i64 e)/\w'.cell? ⟨w.heap.size+1,0,none⟩=some (.string (bs l'))/\w'.cell? ⟨w.heap.size+1,1,none⟩=some (.bool s')/\w'.cell? ⟨w.heap.size+1,2,none⟩=some (.string (bs m'))/\w'.cell? ⟨w.heap.size+1,3,none⟩=some (.int .i64 e')) (λi=>Nat.blt i 9) [(0,true),(1,true),(2,true),(3,true),(4,true),(5,true),(6,false),(7,false),(8,true),(9,false)] zk zk rfl zk zc ⟨x0,x1,x2,x3,y0,y1,y2,y3⟩ ?_;iterate 6 (refine pT rfl rfl ?_ (by intro w' ⟨q0,q1,q2,q3,q4,q5,q6,q7⟩;go_simp;try with_reducible rfl);try simp only[UU])
 refine aI rfl rfl (λK hK=>?_);go_simp;refine hK _ _ (λ_=>⟨aG x0,aG x1,aG x2,aG x3,aG y0,aG y1,aG y2,aG y3⟩) ?_;clear hK K;try simp only[UU]
 refine bN (λW3=>ak W3 (W.heap.size) 30 [.bool s,.string (bs m),.int .i64 e,.bool s',.string (bs m'),.int .i64 e']/\Bw W W3) (by first|exact dP|exact dQ) ?_;rintro W3 ⟨qv,ae⟩;clear x0 x1 x2 x3 y0 y1 y2 y3 r0 ai r1 aj r2 aC r3 cZ;have ah4:=Hx.out.lt;have ah6:=Hy.out.lt;have Il:=Hr.out.lt;replace Hx:=kB Hx ae;replace Hy:=kB Hy ae;replace Hr:=kB Hr ae;have Hv:=ah qv;clear qv;obtain⟨x0,x1,x2,x3⟩:=Hx.out.c4;obtain⟨y0,y1,y2,y3⟩:=Hy.out.c4;obtain⟨r0,ai,r1,aj,r2,aC,r3,cZ⟩:=Hr.out.g4;obtain⟨v0,v1,v2,v3,v4,v5⟩:=Hv.out.c6;replace Hb:=au Hb ae;clear ae;refine aI rfl rfl (λK hK=>?_);go_simp;with_reducible refine(zh s m e s' m' e' S B HS.out W.heap.size _ 30 _ iW.out mn.out hB Hv.out ((HT.out.below Hb.out))).mono ?_
 rintro e w4 ⟨rfl,hq⟩;have ae:Bw W3 w4:=by first|exact hq|exact aM hq
 clear x0 x1 x2 x3 y0 y1 y2 y3 r0 ai r1 aj r2 aC r3 cZ v0 v1 v2 v3 v4 v5;replace Hx:=kB Hx ae;replace Hy:=kB Hy ae;replace Hr:=kB Hr ae;replace Hv:=kB Hv ae;obtain⟨x0,x1,x2,x3⟩:=Hx.out.c4;obtain⟨y0,y1,y2,y3⟩:=Hy.out.c4;obtain⟨r0,ai,r1,aj,r2,aC,r3,cZ⟩:=Hr.out.g4;obtain⟨v0,v1,v2,v3,v4,v5⟩:=Hv.out.c6;replace Hb:=au Hb ae;clear ae;refine hK _ _ (λ_=>⟨x0,x1,x2,x3,y0,y1,y2,y3⟩) ?_;clear hK K;try simp only[UU]
 refine pT rfl rfl ?_;try simp only[UU]
 refine aI rfl rfl (λK hK=>?_);go_simp;refine hK _ _ (λh=>absurd h zd) ?_;clear hK K;try simp only[UU]
 clear x0 x1 x2 x3 y0 y1 y2 y3 r0 ai r1 aj r2 aC r3 cZ v0 v1 v2 v3 v4 v5;refine bN (bz w4 (w.heap.size+1+1) 0 [.string (bs l),.bool (ar (dN S)),.string (bs (nt (dN S).natAbs)),.int .i64 (dE S)]) bF ?_;intro w5 hs;replace Hx:=kS Hx hs zo;replace Hy:=kS Hy hs zo;replace Hr:=bX Hr hs;replace Hv:=kS Hv hs zo;obtain⟨x0,x1,x2,x3⟩:=Hx.out.c4;obtain⟨y0,y1,y2,y3⟩:=Hy.out.c4;obtain⟨r0,ai,r1,aj,r2,aC,r3,cZ⟩:=Hr.out.g4;obtain⟨v0,v1,v2,v3,v4,v5⟩:=Hv.out.c6;replace Hb:=bS Hb hs ZS;clear hs;simp only[aU];go_wp2;refine bodyPost_ret (v:=.agg #[.string (bs l),.bool (ar (dN S)),.string (bs (nt (dN S).natAbs)),.int .i64 (dE S)]) (by simp[results,Tryz.results101,go_sem,r0,r1,r2,r3]) rfl ⟨rfl,?_⟩;(repeat first|exact Hb.out| (refine Below.setCell ?_ (by have:=Hb.out.size;first| (dsimp only;omega) | (show _<=_;omega) | (simp<;>omega)) _) | (refine Below.alloc ?_ zt _) |refine Below.drew ?_)
theorem adM (l:List UInt8)(s:Bool)(m:List UInt8)(e:Int)(w:World)(hx:Ok (s,m,e)):
 Calls Tryz.prog 138 #[.agg #[.string (bs l),.bool s,.string (bs m),.int .i64 e]] w λex w'=>ex=.returned (.bool (!ic (l,s,m,e)))/\Bw w w':=by
 obtain⟨g,hg⟩:=aB (cw (az (s,m,e)));have hs:=λW=>nZ s m e g hg W hx;have hz:(!ic (l,s,m,e))=decide (g=0):=by unfold ic;rw[hg];by_cases h:g=0<;>simp[h]
 rw[hz];have Hs:=ah hs;clear hs hz hg hx;obtain⟨W,dc,Hb,Hx⟩:=iF w 107 [.string (bs l),.bool s,.string (bs m),.int .i64 e];obtain⟨x0,x1,x2,x3⟩:=Hx.out.c4;go_enter Tryz.func138,Tryz.ntmps138;go_wp2_with fail;refine(Hs.out _).mono ?_;rintro e w1 ⟨rfl,ae⟩;clear x0 x1 x2 x3;replace Hx:=kB Hx ae;obtain⟨x0,x1,x2,x3⟩:=Hx.out.c4;replace Hb:=au Hb ae;clear ae;go_wp2;refine bodyPost_ret (results_tmp rfl _ _ _) rfl ⟨?_,Hb.out⟩;by_cases h:g=0<;>simp[h]
theorem aib (l:List UInt8)(s:Bool)(m:List UInt8)(e:Int)(V:Int)(bv:Nat)(w:World)(hv:w.cell? ⟨bv,0,none⟩=some (.int .i64 V))(hl:l.length<=9223372036854775807):
 Calls Tryz.prog 135 #[.agg #[.string (bs l),.bool s,.string (bs m),.int .i64 e],.pointer (some ⟨bv,0,none⟩)] w λex w'=>ex=.returned (.bool (!gA l V))/\Bw w w':=by
 have hm:=λW=>NZ l V W hl;obtain⟨t,ht⟩:=aB (gA l V);rw[ht]at hm⊢;obtain⟨Hm,Hv⟩:=aL hm hv;clear hm ht hv;obtain⟨W,dc,Hb,Hx⟩:=iF w 107 [.string (bs l),.bool s,.string (bs m),.int .i64 e];obtain⟨x0,x1,x2,x3⟩:=Hx.out.c4;have hv2:=cell_later Hb.out Hv.out;go_enter Tryz.func135,Tryz.ntmps135;go_wp2_with fail;refine(Hm.out _).mono ?_;rintro e w1 ⟨rfl,ae⟩;clear x0 x1 x2 x3;replace Hx:=kB Hx ae;obtain⟨x0,x1,x2,x3⟩:=Hx.out.c4;replace Hb:=au Hb ae;clear ae hv2;go_wp2;refine bodyPost_ret (results_tmp rfl _ _ _) rfl ⟨rfl,Hb.out⟩
def mR (p q:List Dyadic):Nat->Dyadic
 |0=>0
 |k+1=>mR p q k+(p.getD k 0-q.getD k 0) * (p.getD k 0-q.getD k 0)
theorem IK {B:Nat}{p q:List Dyadic}(hp:∀c∈p,Sm B c)(hq:∀c∈q,Sm B c)(k:Nat):Sm (2*B+2+k) (mR p q k):=by
 induction k with
 |zero=>exact Sm.zero _
 |succ k ih=>have h1:=Sm.sub (Tt hp k) (Tt hq k);have h2:=Sm.mul h1 h1;exact Sm.add ih (h2.mono (show B+1+(B+1)<=2*B+2+k by omega))
theorem akT (a:Option Addr)(n cap:Nat)(P:List Raw)(a':Option Addr)(cap':Nat)(Q:List Raw)(B:Nat)(w:World)(hP:P.length=n)(hQ:Q.length=n)(hn:n<=8)(ha:At w a (P.flatMap bo))(ha':At w a' (Q.flatMap bo))
 (xB:∀x∈P,Fit B x) (xC:∀x∈Q,Fit B x) (hB:B<=10000000) (hT:aF w):
 Calls Tryz.prog 89 #[.slice a n cap,.slice a' n cap'] w λe w'=>e=.returned (bC (mR (P.map az) (Q.map az) n))/\Bw w w':=by
 have DC:∀c∈P.map az,Sm B c:=λc hc=>by obtain⟨x,hx,rfl⟩:=List.mem_map.1 hc;exact(xB x hx).2
 have DF:∀c∈Q.map az,Sm B c:=λc hc=>by obtain⟨x,hx,rfl⟩:=List.mem_map.1 hc;exact(xC x hx).2
 have lM:=λk=>IK DC DF k;have hstep:∀k (h1:k<P.length) (h2:k<Q.length),mR (P.map az) (Q.map az) (k+1)=mR (P.map az) (Q.map az) k+(az P[k]-az Q[k]) * (az P[k]-az Q[k]):=λk h1 h2=>by
  have e1:(P.map az).getD k 0=az P[k]:=by simp[h1]
  have e2:(Q.map az).getD k 0=az Q[k]:=by simp[h2]
  rw[mR,e1,e2]
 have hs0:mR (P.map az) (Q.map az) 0=0:=rfl;obtain⟨F,hF⟩:=aB (mR (P.map az) (Q.map az));rw[hF]at hs0⊢;simp only[hF]at lM hstep;obtain⟨HP,HQ,Ha,oQ,BA,wN,HT,Ks,fU,nV⟩:=xY hP hQ ha ha' xB xC hT lM hstep hs0;clear hP hQ ha ha' xB xC hT lM hstep hs0 hF DC DF;obtain⟨W,dc,Hb,Hr,Hs⟩:=nO w 30 [.bool false,.string ⟨#[]⟩,.int .i64 0] 30 [.bool false,.string ⟨#[]⟩,.int .i64 0];obtain⟨r0,ai,r1,aj,r2,aC⟩:=Hr.out.g3;obtain⟨s0,bH,s1,bI,s2,bY⟩:=Hs.out.g3;go_enter Tryz.func89,Tryz.ntmps89;go_wp2_with fail;clear r0 ai r1 aj r2 aC s0 bH s1 bI s2 bY;first|refine bO (bz W (w.heap.size+1) 0 [.bool false,.string ⟨#[]⟩,.int .i64 0]) bF ?_|refine bK (bz W (w.heap.size+1) 0 [.bool false,.string ⟨#[]⟩,.int .i64 0]) bF ?_
 intro w1 hs;replace Hr:=kS Hr hs zo;replace Hs:=bX Hs hs;obtain⟨r0,ai,r1,aj,r2,aC⟩:=Hr.out.g3;obtain⟨s0,bH,s1,bI,s2,bY⟩:=Hs.out.g3;replace Hb:=bS Hb hs ZS;clear hs;have lr:=Hr.out.lt;have ls:=Hs.out.lt;go_wp2_with fail;go_loopw[11] (λi wr=>∃(k:Nat) (X:Dyadic),k<=n/\i=.int .i64 (k:Int)/\F k=X/\ak wr w.heap.size 30 [.bool false,.string ⟨#[]⟩,.int .i64 0]/\ak wr (w.heap.size+1) 30 (bo (canon X))/\Bw w wr) (λi _=>n-(intOf i).toNat);case atStart=>exact⟨0,0,Nat.zero_le _,rfl,nV.out,Hr.out,Hs.out,Hb.out⟩
 case round=>
  clear r0 r1 r2 ai aj aC s0 s1 s2 bH bI bY Hr Hs;obtain⟨k,X,hk,rfl,hX,pr,ps,pb⟩:=hrel;by_cases hlt:k<n
  . have k1:k<P.length:=by rw[HP.out];exact hlt
    have k2:k<Q.length:=by rw[HQ.out];exact hlt
    obtain⟨sp,mp,ep,dZ⟩:=iA (P[k]);obtain⟨sq,mq,eq,fX⟩:=iA (Q[k]);have df:=BA.out _ (List.getElem_mem k1);have ez:=wN.out _ (List.getElem_mem k2);have hst:=fU.out k k1 k2;rw[dZ]at df hst;rw[fX]at ez hst;obtain⟨D,hD⟩:=aB (az (sp,mp,ep)-az (sq,mq,eq));obtain⟨E,hE⟩:=aB (D*D);obtain⟨Y,hY⟩:=aB (X+E);rw[hX,hD,hE,hY]at hst;have fG:Sm (B+1) D:=by rw[<-hD];exact Sm.sub df.2 ez.2
    have rQ:Sm (2*B+2) E:=by rw[<-hE];exact(Sm.mul fG fG).mono zo
    have fD:Sm (2*B+2+k) X:=by rw[<-hX];exact Ks.out k
    obtain⟨b1,o1,bW,p0,p1,p2⟩:=(Ha.out.below pb).num k k1 dZ;obtain⟨b2,o2,dm,q0,q1,q2⟩:=(oQ.out.below pb).num k k2 fX;have iB:=iZ n cap k (k:Int) bW hlt rfl;have kN:=iZ n cap' k (k:Int) dm hlt rfl;have Hp:Hid (aV wr b1 (o1+k*3) [.bool sp,.string (bs mp),.int .i64 ep]):=fS p0 p1 p2;have Hq:Hid (aV wr b2 (o2+k*3) [.bool sq,.string (bs mq),.int .i64 eq]):=fS q0 q1 q2;obtain⟨iH,jT,HD,HE,HY,cd,Jf,Jh,uz,Hr⟩:=xY df ez hD hE hY hst fG rQ fD pr;have Hs:Hid (ak wr (w.heap.size+1) 30 [.bool (ar (dN X)),.string (bs (nt (dN X).natAbs)),.int .i64 (dE X)]):=ps;obtain⟨fT,cz⟩:=aL pb (HT.out.below pb);have Px:=pb.size;clear pr ps pb df ez hst hD hE hY fG rQ fD p0 p1 p2 q0 q1 q2 dZ fX hX bW dm;have Hb:Hid (Bw wr wr):=Below.refl _ _;go_upto_region 5 with fail
    go_cut[7] (λs7 wx=>∃g:Nat,s7=.pointer (some ⟨g,0,none⟩)/\wr.heap.size<=g/\ak wx g 30 [.bool (ar (dN D)),.string (bs (nt (dN D).natAbs)),.int .i64 (dE D)]/\Bw wr wx);case first=>
     have p0:wr.cell? ⟨b1,o1+k*3,none⟩=some (.bool sp):=Hp.out.cell 0 zm;have p1:wr.cell? ⟨b1,o1+k*3+1,none⟩=some (.string (bs mp)):=Hp.out.cell 1 zm;have p2:wr.cell? ⟨b1,o1+k*3+2,none⟩=some (.int .i64 ep):=Hp.out.cell 2 zm;have q0:wr.cell? ⟨b2,o2+k*3,none⟩=some (.bool sq):=Hq.out.cell 0 zm;have q1:wr.cell? ⟨b2,o2+k*3+1,none⟩=some (.string (bs mq)):=Hq.out.cell 1 zm;have q2:wr.cell? ⟨b2,o2+k*3+2,none⟩=some (.int .i64 eq):=Hq.out.cell 2 zm;obtain⟨p0,p1,p2⟩:=Hp.out.w3;obtain⟨q0,q1,q2⟩:=Hq.out.w3;refine IZ (λw'=>w'.cell? ⟨b1,o1+k*3,none⟩=some (.bool sp)/\w'.cell? ⟨b1,o1+k*3+1,none⟩=some (.string (bs mp))/\w'.cell? ⟨b1,o1+k*3+2,none⟩=some (.int .i64 ep)/\w'.cell? ⟨b2,o2+k*3,none⟩=some (.bool sq)/\w'.cell? ⟨b2,o2+k*3+1,none⟩=some (.string (bs mq))/\w'.cell? ⟨b2,o2+k*3+2,none⟩=some (.int .i64 eq)) (λi=>Nat.blt i 10) 8 9 [(9,false),(10,false)] [(8,false),(10,false)] [0,1,2,3,4,5,6,7] zk zk rfl rfl zk zc ⟨p0,p1,p2,q0,q1,q2⟩ ?_;iterate 8 (refine IE rfl rfl (v:=?_) (λw' hw'=>?_) ?_;rotate_left;(focus obtain⟨q0,q1,q2,q3,q4,q5⟩:=hw';go_simp;try with_reducible rfl);try simp only[UU])
     refine ID rfl rfl rfl rfl (λK hK=>?_) (λK hK=>?_)
     . go_simp;with_reducible refine(zq sp mp ep sq mq eq D B HD.out _ iH.out jT.out zo (by first|exact cz.out|exact aF.drew cz.out|exact aF.alloc cz.out _|exact aF.drew (aF.alloc cz.out _) |exact aF.alloc (aF.drew cz.out) _)).mono ?_
       rintro e w5 ⟨rfl,hq⟩;have bT:Bw wr w5:=aM hq;refine hK _ _ ⟨cell_later bT p0,cell_later bT p1,cell_later bT p2,cell_later bT q0,cell_later bT q1,cell_later bT q2⟩ ?_;try simp only[UU]
       refine aI rfl rfl (λK hK=>?_);go_simp;refine hK _ _ (λ_=>⟨aG (cell_later bT p0),aG (cell_later bT p1),aG (cell_later bT p2),aG (cell_later bT q0),aG (cell_later bT q1),aG (cell_later bT q2)⟩) ?_;try simp only[UU]
       refine aI rfl rfl (λK hK=>?_);go_simp;refine hK _ _ (λh=>absurd h zd) ?_;simp only[aU];go_wp2_with fail;go_meet;exact⟨w5.heap.size,rfl,bT.size,ak.new _ _ _,bT.alloc bT.size _⟩
     . go_simp;refine hK _ _ ⟨aG p0,aG p1,aG p2,aG q0,aG q1,aG q2⟩ ?_;try simp only[UU]
       refine aI rfl rfl (λK hK=>?_);go_simp;with_reducible refine(zq sp mp ep sq mq eq D B HD.out _ iH.out jT.out zo (by first|exact cz.out|exact aF.drew cz.out|exact aF.alloc cz.out _|exact aF.drew (aF.alloc cz.out _) |exact aF.alloc (aF.drew cz.out) _)).mono ?_
       rintro e w5 ⟨rfl,hq⟩;have bT:Bw wr w5:=pj hq;have Hn:ak w5 wr.heap.size 30 [.bool false,.string ⟨#[]⟩,.int .i64 0]:=ak.below (ak.new wr.drew 30 [.bool false,.string ⟨#[]⟩,.int .i64 0]) hq;obtain⟨n0,fN,n1,fO,n2,fP⟩:=Hn.g3;refine hK _ _ (λ_=>⟨cell_later bT p0,cell_later bT p1,cell_later bT p2,cell_later bT q0,cell_later bT q1,cell_later bT q2⟩) ?_;try simp only[UU]
       refine aI rfl rfl (λK hK=>?_);go_simp;refine hK _ _ (λh=>absurd h zd) ?_;simp only[aU];go_wp2_with fail;go_meet;exact⟨wr.heap.size,rfl,Nat.le_refl _,((Hn.set 0 _).set 1 _).set 2 _,((bT.sc wr.heap.size 0 (Nat.le_refl _) _).sc wr.heap.size 1 (Nat.le_refl _) _).sc wr.heap.size 2 (Nat.le_refl _) _⟩
    case rest=>
     obtain⟨g,rfl,hg,qd,qb⟩:=hcut;have wM:Hid (Fit (B+1) (ar (dN D),nt (dN D).natAbs,dE D)):=Jf.out.fit zo;have JM:Hid (Fit (2*B+10) (ar (dN X),nt (dN X).natAbs,dE X)):=(uz.out.mono zo).fit zo;have JL:Hid (Fit (2*B+10) (ar (dN E),nt (dN E).natAbs,dE E)):=(Jh.out.mono zo).fit zo;have JX:Hid (az (ar (dN D),nt (dN D).natAbs,dE D) *az (ar (dN D),nt (dN D).natAbs,dE D)=E):=by show az (canon D) *az (canon D)=E;rw[bU];exact HE.out
     have Js:Hid (az (ar (dN X),nt (dN X).natAbs,dE X)+az (ar (dN E),nt (dN E).natAbs,dE E)=Y):=by show az (canon X)+az (canon E)=Y;rw[bU,bU];exact HY.out
     have NN:=Hs.out.lt;replace Hr:=ah (Hr.out.below qb);replace Hs:=ah (Hs.out.below qb);have Hd:=ah qd;replace cz:=ah (cz.out.below qb);clear Hb;have Hb:=ah (aJ fT.out qb);have lg:=Hd.out.lt;clear qd qb;obtain⟨r0,r1,r2⟩:=Hr.out.c3;obtain⟨s0,bH,s1,bI,s2,bY⟩:=Hs.out.g3;obtain⟨d0,d1,d2⟩:=Hd.out.c3;have cz:Hid (aF wc):=cz.out;go_wp2_with fail;refine bJ (λw'=>w'.cell? ⟨w.heap.size+1,0,none⟩=some (.bool (ar (dN X)))/\w'.cell? ⟨w.heap.size+1,1,none⟩=some (.string (bs (nt (dN X).natAbs)))/\w'.cell? ⟨w.heap.size+1,2,none⟩=some (.int .i64 (dE X))/\w'.cell? ⟨g,0,none⟩=some (.bool (ar (dN D)))/\w'.cell? ⟨g,1,none⟩=some (.string (bs (nt (dN D).natAbs)))/\w'.cell? ⟨g,2,none⟩=some (.int .i64 (dE D))) (λi=>Nat.blt i 7) [(0,true),(1,true),(2,true),(3,false),(4,false),(5,false),(6,false),(7,false)] zk zk rfl zk zc ⟨s0,s1,s2,d0,d1,d2⟩ ?_;iterate 3 (refine pT rfl rfl ?_ (by intro w' ⟨q0,q1,q2,q3,q4,q5⟩;go_simp;try with_reducible rfl);try simp only[UU])
     refine aI rfl rfl (λK hK=>?_);go_simp;refine hK _ _ (λ_=>⟨aG s0,aG s1,aG s2,aG d0,aG d1,aG d2⟩) ?_;clear hK K;try simp only[UU]
     refine bN (λw6=>ak w6 (wc.heap.size) 30 [.bool (ar (dN D)),.string (bs (nt (dN D).natAbs)),.int .i64 (dE D),.bool (ar (dN D)),.string (bs (nt (dN D).natAbs)),.int .i64 (dE D)]/\Bw wc w6) (by first|exact dP|exact dQ) ?_;rintro w6 ⟨XU,ae⟩;clear r0 r1 r2 s0 bH s1 bI s2 bY d0 d1 d2;have aor:=Hr.out.lt;have aov:=Hs.out.lt;have an1:=Hd.out.lt;replace Hr:=kB Hr ae;replace Hs:=kB Hs ae;replace Hd:=kB Hd ae;replace cz:=kT cz ae;have mr:=ah XU;clear XU;obtain⟨r0,r1,r2⟩:=Hr.out.c3;obtain⟨s0,bH,s1,bI,s2,bY⟩:=Hs.out.g3;obtain⟨d0,d1,d2⟩:=Hd.out.c3;obtain⟨vJ,vK,vL,sA,sB,m15⟩:=mr.out.c6;replace Hb:=au Hb ae;clear ae;refine aI rfl rfl (λK hK=>?_);go_simp;with_reducible refine(Cx _ _ _ _ _ _ E (B+1) JX.out _ 2 _ _ wM.out wM.out zo mr.out (by first|exact cz.out|exact aF.drew cz.out|exact aF.alloc cz.out _|exact aF.drew (aF.alloc cz.out _) |exact aF.alloc (aF.drew cz.out) _)).mono ?_
     rintro e w7 ⟨rfl,hq⟩;have ae:Bw w6 w7:=by first|exact hq|exact aM hq
     clear r0 r1 r2 s0 bH s1 bI s2 bY d0 d1 d2 vJ vK vL sA sB m15;replace Hr:=kB Hr ae;replace Hs:=kB Hs ae;replace Hd:=kB Hd ae;replace cz:=kT cz ae;replace mr:=kB mr ae;obtain⟨r0,r1,r2⟩:=Hr.out.c3;obtain⟨s0,bH,s1,bI,s2,bY⟩:=Hs.out.g3;obtain⟨d0,d1,d2⟩:=Hd.out.c3;obtain⟨vJ,vK,vL,sA,sB,m15⟩:=mr.out.c6;replace Hb:=au Hb ae;clear ae;refine hK _ _ (λ_=>⟨s0,s1,s2,d0,d1,d2⟩) ?_;clear hK K;try simp only[UU]
     refine aI rfl rfl (λK hK=>?_);go_simp;refine hK _ _ (λ_=>⟨aG s0,aG s1,aG s2,aG d0,aG d1,aG d2⟩) ?_;clear hK K;try simp only[UU]
     refine bN (λw8=>ak w8 (w7.heap.size) 30 [.bool (ar (dN X)),.string (bs (nt (dN X).natAbs)),.int .i64 (dE X),.bool (ar (dN E)),.string (bs (nt (dN E).natAbs)),.int .i64 (dE E)]/\Bw w7 w8) (by first|exact dP|exact dQ) ?_;rintro w8 ⟨XV,ae⟩;clear r0 r1 r2 s0 bH s1 bI s2 bY d0 d1 d2 vJ vK vL sA sB m15;have aos:=Hr.out.lt;have aow:=Hs.out.lt;have an2:=Hd.out.lt;have aod:=mr.out.lt;replace Hr:=kB Hr ae;replace Hs:=kB Hs ae;replace Hd:=kB Hd ae;replace cz:=kT cz ae;replace mr:=kB mr ae;have uG:=ah XV;clear XV;obtain⟨r0,r1,r2⟩:=Hr.out.c3;obtain⟨s0,bH,s1,bI,s2,bY⟩:=Hs.out.g3;obtain⟨d0,d1,d2⟩:=Hd.out.c3;obtain⟨vJ,vK,vL,sA,sB,m15⟩:=mr.out.c6;obtain⟨Io,Ip,Iq,Ir,Iu,Iw⟩:=uG.out.c6;replace Hb:=au Hb ae;clear ae;refine aI rfl rfl (λK hK=>?_);go_simp;with_reducible refine(zh _ _ _ _ _ _ Y (2*B+10) Js.out _ 2 _ _ JM.out JL.out zo uG.out (by first|exact cz.out|exact aF.drew cz.out|exact aF.alloc cz.out _|exact aF.drew (aF.alloc cz.out _) |exact aF.alloc (aF.drew cz.out) _)).mono ?_
     rintro e w9 ⟨rfl,hq⟩;have ae:Bw w8 w9:=by first|exact hq|exact aM hq
     clear r0 r1 r2 s0 bH s1 bI s2 bY d0 d1 d2 vJ vK vL sA sB m15 Io Ip Iq Ir Iu Iw;replace Hr:=kB Hr ae;replace Hs:=kB Hs ae;replace Hd:=kB Hd ae;replace cz:=kT cz ae;replace mr:=kB mr ae;replace uG:=kB uG ae;obtain⟨r0,r1,r2⟩:=Hr.out.c3;obtain⟨s0,bH,s1,bI,s2,bY⟩:=Hs.out.g3;obtain⟨d0,d1,d2⟩:=Hd.out.c3;obtain⟨vJ,vK,vL,sA,sB,m15⟩:=mr.out.c6;obtain⟨Io,Ip,Iq,Ir,Iu,Iw⟩:=uG.out.c6;replace Hb:=au Hb ae;clear ae;refine hK _ _ (λ_=>⟨s0,s1,s2,d0,d1,d2⟩) ?_;clear hK K;try simp only[UU]
     refine aI rfl rfl (λK hK=>?_);go_simp;refine hK _ _ (λh=>absurd h zd) ?_;clear hK K;try simp only[UU]
     clear r0 r1 r2 s0 bH s1 bI s2 bY d0 d1 d2 vJ vK vL sA sB m15 Io Ip Iq Ir Iu Iw;refine bN (bz w9 (w.heap.size+1) 0 [.bool (ar (dN Y)),.string (bs (nt (dN Y).natAbs)),.int .i64 (dE Y)]) bF ?_;intro eY hs;replace Hr:=kS Hr hs zo;replace Hs:=bX Hs hs;replace Hd:=kS Hd hs zo;replace mr:=kS mr hs zo;replace uG:=kS uG hs zo;obtain⟨r0,r1,r2⟩:=Hr.out.c3;obtain⟨s0,bH,s1,bI,s2,bY⟩:=Hs.out.g3;obtain⟨d0,d1,d2⟩:=Hd.out.c3;obtain⟨vJ,vK,vL,sA,sB,m15⟩:=mr.out.c6;obtain⟨Io,Ip,Iq,Ir,Iu,Iw⟩:=uG.out.c6;replace Hb:=bS Hb hs ZS;clear hs;simp only[aU];go_wp2;go_roundw;case rel=>exact⟨k+1,Y,by omega,by go_num,cd.out,Hr.out,Hs.out,Hb.out⟩
     case measure=>simp[intOf];omega
  . obtain rfl:k=n:=by omega
    have Hr:=ah pr;have Hs:Hid (ak wr (w.heap.size+1) 30 [.bool (ar (dN X)),.string (bs (nt (dN X).natAbs)),.int .i64 (dE X)]):=ps;have HX:=ah hX;replace Hb:=ah pb;clear pr ps pb hX;obtain⟨r0,ai,r1,aj,r2,aC⟩:=Hr.out.g3;obtain⟨s0,s1,s2⟩:=Hs.out.c3;go_wp2;clear r0 ai r1 aj r2 aC s0 s1 s2;refine fF (bz wr (w.heap.size) 0 [.bool (ar (dN X)),.string (bs (nt (dN X).natAbs)),.int .i64 (dE X)]) bF ?_;intro w9 hs;replace Hr:=bX Hr hs;replace Hs:=kS Hs hs zo;obtain⟨r0,ai,r1,aj,r2,aC⟩:=Hr.out.g3;obtain⟨s0,s1,s2⟩:=Hs.out.c3;replace Hb:=bS Hb hs ZS;clear hs;refine bodyPost_ret (v:=bC X) (by simp[results,Tryz.results89,go_sem,r0,r1,r2]) rfl ⟨by rw[HX.out],Hb.out⟩
end Go.Proofs.YtdaadlblknpipaaGreatDoor
