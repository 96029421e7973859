/- Small facts that many walks share: numbers in memory,windows,own rows. -/
import Derived.Test.YtnjfebkelecgaaaGreatDoorZ9
import Derived.Test.YtnjfebkelecgaaaGreatDoorZ10
import Derived.Test.YtnjfebkelecgaaaGreatDoorZ7
import Derived.Carry
import Derived.Maps.AppendAt
import Derived.Maps.OwnIn
import Derived.Maps.Own
import Derived.Maps.Views
import Derived.Maps.Keyed
import Derived.Maps.OwnSet
import Derived.Shelf.Abstract
import Derived.Shelf.RegionOpen
import Derived.OwnWalkIn
import Derived.TacticsInMore
import Derived.LoopNIn
import Derived.LoopIn
import Derived.Lib.BufferWrite
import Derived.Deep.WholeRow
import Derived.Test.YtnjfebkelecgaaaGreatDoorZ1
import Derived.Test.YtnjfebkelecgaaaGreatDoorZ5
set_option linter.all false
set_option maxRecDepth 100000
set_option maxHeartbeats 16000000
namespace Go.Proofs.YtnjfebkelecgaaaGreatDoor
open Go.RowKit
attribute [local go_sem ↓] Go.wp_at_zero Go.wp_at_succ
def hp (k:Nat):Dyadic:=Dyadic.ofIntWithPrec 1 k
def Tryz.aFN :(Tryz.prog.info? 48).map (λi=>(i.zero,i.size,i.bytes))=some (some (.agg #[aj false,.string (bs []),ah 0]),3,32):=by kernel_rfl
def dC (ds:List Dyadic):List Value:=ds.flatMap λd=>bG (canon d)
def TI (ds:List Dyadic):(dC ds).length=ds.length*3:=kj _ 3 (λ_=>rfl) ds
def BA (a b:List Dyadic):dC (a++b)=dC a++dC b:=by unfold dC;rw[List.flatMap_append]
def avt (n:Nat):madeCells (Value.agg #[aj false,.string (bs []),ah 0]).cells (n*3)=(dC (List.replicate n 0)).toArray:=by
 have h:∀n,(List.range (n*3)).map (λi=>(Value.agg #[aj false,.string (bs []),ah 0]).cells[i%3]!)=dC (List.replicate n 0):=by
  intro n;induction n with
  |zero=>rfl
  |succ n ih=>rw[show(n+1) *3=n*3+1+1+1 by omega,List.range_succ,List.range_succ,List.range_succ,List.map_append,List.map_append,List.map_append,ih,List.replicate_succ',BA];simp only[List.map_cons,List.map_nil,List.append_assoc];rw[show n*3%3=0 by omega,show(n*3+1)%3=1 by omega,show(n*3+1+1)%3=2 by omega];rfl
 apply Array.ext';rw[<-h n];simp[madeCells];intro a _;rfl
def CN {Y:Nat->Prop}{W W':World}{base:Nat}{e:TypeId}{size:Nat}{v:Value}{n:Nat}{xs:List Value}(h:W.ownsRow base e size v n xs)(hc:Chg Y W W')(hy:∀b,v.ownBlock=some b->¬Y b):W'.ownsRow base e size v n xs:=by
 refine⟨h.1,?_⟩;rcases h.2 with h1|⟨g,cap,cur,rfl,hb,hg,h2,h3,h4,h5⟩
 . exact .inl h1
 . exact .inr ⟨g,cap,cur,rfl,hb,(hc.block g (Array.getElem?_eq_some_iff.1 hg).1 (hy g rfl)).trans hg,h2,h3,h4,h5⟩
def dS {W:World}{base:Nat}{e:TypeId}{size:Nat}{v:Value}{n:Nat}{xs:List Value}(h:W.ownsRow base e size v n xs):∃a cap,v=.slice a n cap/\At W a xs/\∀b o,a=some ⟨b,o,none⟩->base<=b:=by
 rcases h.2 with⟨rfl,rfl⟩ |⟨g,cap,cur,rfl,hb,hg,h2,h3,h4,h5⟩
 . refine⟨none,0,rfl,.inl ?_,λb o e=>by cases e⟩;have:=h.1;simpa using this
 . refine⟨_,cap,rfl,.inr ⟨g,0,rfl,λj hj=>?_⟩,λb o e=>by cases e;exact hb⟩;have:=h.cells (g:=g) rfl j (xs[j]) (by simp[hj]);rw[Nat.zero_add];have e2:((⟨g,0,none⟩:Addr).add j)=⟨g,j,none⟩:=by simp[Addr.add];omega
   rw[e2]at this;rw[this];simp[hj]
def bH (w:World)(b o:Nat)(cs:List Value):Prop:=∀j (h:j<cs.length),w.cell? ⟨b,o+j,none⟩=some cs[j]
def bH.cell {w:World}{b o:Nat}{cs:List Value}(h:bH w b o cs)(j:Nat)(hj:j<cs.length):w.cell? ⟨b,o+j,none⟩=some cs[j]:=h j hj
def bH.w1 {w:World}{b o:Nat}{x0:Value}(h:bH w b o [x0]):w.cell? ⟨b,o,none⟩=some x0:=h 0 zm
def bH.w2 {w:World}{b o:Nat}{x0 x1:Value}(h:bH w b o [x0,x1]):w.cell? ⟨b,o,none⟩=some x0/\w.cell? ⟨b,o+1,none⟩=some x1:=⟨h 0 zm,h 1 zm⟩
def bH.w3 {w:World}{b o:Nat}{x0 x1 x2:Value}(h:bH w b o [x0,x1,x2]):w.cell? ⟨b,o,none⟩=some x0/\w.cell? ⟨b,o+1,none⟩=some x1/\w.cell? ⟨b,o+2,none⟩=some x2:=⟨h 0 zm,h 1 zm,h 2 zm⟩
def bH.w4 {w:World}{b o:Nat}{x0 x1 x2 x3:Value}(h:bH w b o [x0,x1,x2,x3]):w.cell? ⟨b,o,none⟩=some x0/\w.cell? ⟨b,o+1,none⟩=some x1/\w.cell? ⟨b,o+2,none⟩=some x2/\w.cell? ⟨b,o+3,none⟩=some x3:=⟨h 0 zm,h 1 zm,h 2 zm,h 3 zm⟩
def bH.below {w w':World}{b o:Nat}{cs:List Value}(h:bH w b o cs)(hb:Bw w w'):bH w' b o cs:=λj hj=>cell_later hb (h j hj)
def kW {w w':World}{b o:Nat}{cs:List Value}(h:Hid (bH w b o cs))(k:Bw w w'):Hid (bH w' b o cs):=h.out.below k
def bH.aFJ {w:World}{b o:Nat}{cs:List Value}(h:bH w b o cs)(a:Addr)(hne:b≠a.block)(u:Value):bH (w.setCell a u) b o cs:=λj hj=>ij hne (h j hj)
def WQ {w w':World}{b c p o:Nat}{cs vs:List Value}(h:Hid (bH w b c cs))(k:bY w p o vs w')(n:p≠b):Hid (bH w' b c cs):=by
 have g:∀(vs:List Value) (o:Nat) (w:World),bH w b c cs->bH (yu p o vs w) b c cs:=by
  intro vs;induction vs with
  |nil=>intro o w h;exact h
  |cons v vs ih=>intro o w h;exact ih _ _ (h.aFJ ⟨p,o,none⟩ (λe=>n e.symm) v)
 rcases k with rfl|rfl
 . exact g vs o _ h.out
 . exact g vs o w.drew h.out
def bH.num {w:World}{b:Nat}{t:TypeId}{ds:List Dyadic}(h:au w b t (dC ds))(i:Nat)(hi:i<ds.length):bH w b (i*3) [aj (aC (dN ds[i])),ai (nt (dN ds[i]).natAbs),ah (dE ds[i])]:=by
 intro j hj;have Ox:j<3:=hj;rw[h.cell];have:=flat_get (λd=>bG (canon d)) 3 (λ_=>rfl) ds i j hi Ox;unfold dC;rw[this];rcases j with _|_|_|j
 . rfl
 . rfl
 . rfl
 . omega
def acx (ds:List Dyadic)(i:Nat)(D:Dyadic):(((dC ds).set (i*3) (aj (aC (dN D)))).set (i*3+1) (ai (nt (dN D).natAbs))).set (i*3+2) (ah (dE D))=dC (ds.set i D):=by
 induction ds generalizing i with
 |nil=>simp[dC]
 | cons x ds ih=>
   have e:∀y:Dyadic,∀zs,dC (y::zs)=aj (aC (dN y))::ai (nt (dN y).natAbs)::ah (dE y)::dC zs:=λy zs=>rfl;cases i with
   |zero=>rw[e];rfl
   |succ i=>rw[List.set_cons_succ,e,e,<-ih i,show(i+1) *3=i*3+1+1+1 by omega];rfl
def aM.lt {w:World}(h:aM w):0<w.heap.size:=World.block_lt_of_cell? w _ (h 0 zd)
def oh (ds:List Dyadic):dC ds=(ds.map canon).flatMap bG:=by unfold dC;rw[List.flatMap_map]
def fP {P:Program}{fn:Func}{R:Ending->World->Prop}{e:Exit}{a:Act}{W:World}(S:World->Prop)(hS:S W)(h:∀W',S W'->bodyPost P fn R e a W'):bodyPost P fn R e a W:=h W hS
def au.not_row {W:World}{B:Nat}{t e:TypeId}{cs:List Value}(h:au W B t cs)(hte:t≠e){base size k:Nat}{v:Value}{xs:List Value}(hr:W.ownsRow base e size v k xs):some B≠v.ownBlock:=by
 rcases hr.2 with⟨rfl,_⟩ |⟨g,cap,cur,rfl,_,hgb,_⟩
 . simp[Value.ownBlock]
 . intro e';simp only[Value.ownBlock,Option.some.injEq]at e';subst e';have:=h.symm.trans hgb;simp at this;exact hte this.2
def au.row {W W':World}{B:Nat}{t e:TypeId}{cs:List Value}(h:au W B t cs)(hte:t≠e){base size k:Nat}{v:Value}{xs:List Value}(hr:W.ownsRow base e size v k xs)(hg:W.grownBy W' v.ownBlock):au W' B t cs:=
 h.grown hg (h.not_row hte hr)
def ownsRow_below {W W':World}{base:Nat}{e:TypeId}{size:Nat}{v:Value}{n:Nat}{xs:List Value}(h:W.ownsRow base e size v n xs)(hb:Bw W W'):W'.ownsRow base e size v n xs:=by refine CN (Y:=λ_=>False) h (Chg.of_below hb) (λ_ _ h=>h)
def dX {W:World}{base:Nat}{e:TypeId}{size:Nat}{v:Value}{n:Nat}{xs:List Value}(h:W.ownsRow base e size v n xs):∀k,v.ownBlock=some k->base<=k:=λk hk=>(h.lt k hk).1
def jH {w:World}{b o:Nat}{x y z:Value}(h0:w.cell? ⟨b,o,none⟩=some x)(h1:w.cell? ⟨b,o+1,none⟩=some y)(h2:w.cell? ⟨b,o+2,none⟩=some z):bH w b o [x,y,z]:=by
 intro j hj;rcases j with _|_|_|j
 . exact h0
 . exact h1
 . exact h2
 . simp at hj;omega
def gW {W:World}{b:Nat}{t:TypeId}{cs:List Value}(h:au W b t cs):∀j u,cs[j]?=some u->W.cell? ((⟨b,0,none⟩:Addr).add j)=some u:=by
 intro j u hj;have e2:((⟨b,0,none⟩:Addr).add j)=⟨b,j,none⟩:=by simp[Addr.add];omega
 rw[e2,h.cell];exact hj
def At.num {W:World}{a:Option Addr}{cJ:List Raw}(h:At W a (cJ.flatMap bG))(k:Nat)(hk:k<cJ.length){s:Bool}{m:List UInt8}{e:Int}(hx:cJ[k]=(s,m,e)):
 ∃b o,a=some ⟨b,o,none⟩/\W.cell? ⟨b,o+k*3,none⟩=some (aj s)/\W.cell? ⟨b,o+k*3+1,none⟩=some (ai m)/\W.cell? ⟨b,o+k*3+2,none⟩=some (ah e):=by
 obtain⟨b,o,ha,hc⟩:=h.elem (f:=bG) (sz:=3) (λ_=>rfl) zd k hk;rw[hx]at hc;exact⟨b,o,ha,by simpa[bG]using hc 0 zd,by simpa[bG]using hc 1 zd,by simpa[bG]using hc 2 zd⟩
def rO {B:Nat}{cs:List Dyadic}(h:∀c∈cs,Sm B c)(k:Nat):Sm B (cs.getD k 0):=by
 by_cases hk:k<cs.length
 . have:cs.getD k 0=cs[k]:=by simp[hk]
   rw[this];exact h _ (List.getElem_mem hk)
 . have:cs.getD k 0=0:=by simp[List.getD_eq_getElem?_getD,List.getElem?_eq_none (by omega:cs.length<=k)]
   rw[this];exact Sm.zero B
def idxFrom (p:Value->Bool):List Value->Nat->Int
 |[],_=>-1
 |v::l,k=>if p v then(k:Int)else idxFrom p l (k+1)
def WK (p:Value->Bool)(l:List Value)(k n:Nat)(h:n<l.length):idxFrom p (l.drop n) k=if p l[n]then(k:Int)else idxFrom p (l.drop (n+1)) (k+1):=by rw[List.drop_eq_getElem_cons h];rfl
def agB (p:Value->Bool)(l:List Value)(k:Nat):decide (0<=idxFrom p l k)=l.any p:=by
 induction l generalizing k with
 |nil=>rfl
 | cons v l ih=>
   unfold idxFrom;rw[List.any_cons];by_cases h:p v=true
   . rw[if_pos h,h,Bool.true_or];simp
   . rw[if_neg h,ih];simp[h]
def atX (a:Option Addr)(n cap:Nat)(vals:List Value)(gf:Nat)(lb:Array Value)(p:Value->Bool)(w:World)(hn:vals.length=n)(hl:n<=1099511627776)(ha:At w a vals)
 (eg:∀args w,(callFunc gf args).run Tryz.prog w=.ok (.enter gf args) w)
 (hcl:∀v∈vals,∀W,Bw w W->Cl gf (#[v]++lb) W λe w'=>e=.returned (aj (p v))/\Bw W w'):
 Cv 147 #[.slice a n cap,.func (.func gf) #[] lb] w (ah (idxFrom p vals 0)):=by
 obtain⟨Hn,Ha,gP,tW⟩:=ej hn ha hcl eg;clear hn ha hcl eg;have Hb:=hbz w;go_enter Tryz.func147,Tryz.ntmps147;go_wp2_with fail;go_loopw[5,8] (λ_ i wr=>∃k:Nat,k<=n/\i=ah (k:Int)/\idxFrom p vals 0=idxFrom p (vals.drop k) k/\Bw w wr) (λ_ i _=>n-(intOf i).toNat);case atStart=>exact⟨0,Nat.zero_le _,rfl,rfl,Hb.out⟩
 case round=>
  clear Hb;obtain⟨k,hk,rfl,iV,pb⟩:=hrel;obtain⟨qI,Hb⟩:=aZ iV pb;clear iV pb;by_cases hlt:k<n
  . have bC:k<vals.length:=by rw[Hn.out];exact hlt
    obtain⟨b,o,hab,hcs⟩:=(Ha.out.below Hb.out).get (by intro h;rw[h]at bC;simp at bC);obtain⟨v,hv⟩:=aK (vals[k]);have hc0:wr.cell? ⟨b,o+k,none⟩=some v:=by rw[hcs k bC,List.getElem?_eq_getElem bC,hv]
    have bD:=Ai n cap k (k:Int) hab hlt rfl;rw[Nat.mul_one]at bD;have hcall:=gP.out v (by rw[<-hv];exact List.getElem_mem bC) wr Hb.out;have hstep:=WK p vals k k bC;rw[hv,<-qI.out]at hstep;obtain⟨ll,rI⟩:=aZ hstep hcall;have wR:=tW.out;clear hcs hab hv hstep hcall;go_wp2_with fail;refine rI.out.mono ?_;rintro e w1 ⟨rfl,hb1⟩;replace Hb:=ar (aO Hb.out hb1);clear hb1 hc0 bD wR;obtain⟨t,ht⟩:=aK (p v);rw[ht]at ll⊢;clear ht;cases t with
    |true=>go_wp2;refine bodyPost_ret (results_tmp rfl _ _ _) rfl ⟨?_,Hb.out⟩;have h:=ll.out;rw[if_pos (by trivial)]at h;rw[h];rfl
    | false=>
      go_wp2;go_roundw;case rel=>exact⟨k+1,by omega,by go_num,by have h:=ll.out;rw[if_neg zd]at h;exact h,Hb.out⟩
      case measure=>exact bI
  . obtain rfl:k=n:=by omega
    go_wp2;refine bodyPost_ret (results_tmp rfl _ _ _) rfl ⟨?_,Hb.out⟩;have h:=qI.out;rw[List.drop_of_length_le (by rw[Hn.out];exact Nat.le_refl _)]at h;rw[h];rfl
def aqf (a:Option Addr)(n cap:Nat)(vals:List Value)(gf:Nat)(lb:Array Value)(p:Value->Bool)(w:World)(hn:vals.length=n)(hl:n<=1099511627776)(ha:At w a vals)
 (eg:∀args w,(callFunc gf args).run Tryz.prog w=.ok (.enter gf args) w)
 (hcl:∀v∈vals,∀W,Bw w W->Cl gf (#[v]++lb) W λe w'=>e=.returned (aj (p v))/\Bw W w'):
 Cv 110 #[.slice a n cap,.func (.func gf) #[] lb] w (aj (vals.any p)):=by
 have h1:=atX a n cap vals gf lb p w hn hl ha eg hcl;rw[<-agB p vals 0];generalize idxFrom p vals 0=i at*;have H1:=ar h1;clear h1 hcl eg ha hn;have Hb:=hbz w;go_enter Tryz.func110,Tryz.ntmps110;go_wp2_with fail;refine(H1.out).mono ?_;rintro e w1 ⟨rfl,ag⟩;replace Hb:=az Hb ag;go_wp2;exact bodyPost_ret (v:=aj (decide (0<=i))) (by simp[results,Tryz.results110,go_sem]) rfl ⟨rfl,dH⟩
def atW (a:Option Addr)(n cap:Nat)(vals:List Value)(gf:Nat)(lb:Array Value)(p:Value->Bool)(w:World)(hn:vals.length=n)(hl:n<=1099511627776)(ha:At w a vals)
 (eg:∀args w,(callFunc gf args).run Tryz.prog w=.ok (.enter gf args) w)
 (hcl:∀v∈vals,∀W,Bw w W->Cl gf (#[v]++lb) W λe w'=>e=.returned (aj (p v))/\Bw W w'):
 Cv 179 #[.slice a n cap,.func (.func gf) #[] lb] w (ah (idxFrom p vals 0)):=by
 obtain⟨Hn,Ha,gP,tW⟩:=ej hn ha hcl eg;clear hn ha hcl eg;have Hb:=hbz w;go_enter Tryz.func179,Tryz.ntmps179;go_wp2_with fail;go_loopw[5,8] (λ_ i wr=>∃k:Nat,k<=n/\i=ah (k:Int)/\idxFrom p vals 0=idxFrom p (vals.drop k) k/\Bw w wr) (λ_ i _=>n-(intOf i).toNat);case atStart=>exact⟨0,Nat.zero_le _,rfl,rfl,Hb.out⟩
 case round=>
  clear Hb;obtain⟨k,hk,rfl,iV,pb⟩:=hrel;obtain⟨qI,Hb⟩:=aZ iV pb;clear iV pb;by_cases hlt:k<n
  . have bC:k<vals.length:=by rw[Hn.out];exact hlt
    obtain⟨b,o,hab,hcs⟩:=(Ha.out.below Hb.out).get (by intro h;rw[h]at bC;simp at bC);obtain⟨v,hv⟩:=aK (vals[k]);have hc0:wr.cell? ⟨b,o+k,none⟩=some v:=by rw[hcs k bC,List.getElem?_eq_getElem bC,hv]
    have bD:=EX n cap k (k:Int) hab hlt rfl;rw[Nat.mul_one]at bD;have hcall:=gP.out v (by rw[<-hv];exact List.getElem_mem bC) wr Hb.out;have hstep:=WK p vals k k bC;rw[hv,<-qI.out]at hstep;obtain⟨ll,rI⟩:=aZ hstep hcall;have wR:=tW.out;clear hcs hab hv hstep hcall;go_wp2_with fail;refine rI.out.mono ?_;rintro e w1 ⟨rfl,hb1⟩;replace Hb:=ar (aO Hb.out hb1);clear hb1 hc0 bD wR;obtain⟨t,ht⟩:=aK (p v);rw[ht]at ll⊢;clear ht;cases t with
    |true=>go_wp2;refine bodyPost_ret (results_tmp rfl _ _ _) rfl ⟨?_,Hb.out⟩;have h:=ll.out;rw[if_pos (by trivial)]at h;rw[h];rfl
    | false=>
      go_wp2;go_roundw;case rel=>exact⟨k+1,by omega,by go_num,by have h:=ll.out;rw[if_neg zd]at h;exact h,Hb.out⟩
      case measure=>exact bI
  . obtain rfl:k=n:=by omega
    go_wp2;refine bodyPost_ret (results_tmp rfl _ _ _) rfl ⟨?_,Hb.out⟩;have h:=qI.out;rw[List.drop_of_length_le (by rw[Hn.out];exact Nat.le_refl _)]at h;rw[h];rfl
def aqe (a:Option Addr)(n cap:Nat)(vals:List Value)(gf:Nat)(lb:Array Value)(p:Value->Bool)(w:World)(hn:vals.length=n)(hl:n<=1099511627776)(ha:At w a vals)
 (eg:∀args w,(callFunc gf args).run Tryz.prog w=.ok (.enter gf args) w)
 (hcl:∀v∈vals,∀W,Bw w W->Cl gf (#[v]++lb) W λe w'=>e=.returned (aj (p v))/\Bw W w'):
 Cv 148 #[.slice a n cap,.func (.func gf) #[] lb] w (aj (vals.any p)):=by
 have h1:=atW a n cap vals gf lb p w hn hl ha eg hcl;rw[<-agB p vals 0];generalize idxFrom p vals 0=i at*;have H1:=ar h1;clear h1 hcl eg ha hn;have Hb:=hbz w;go_enter Tryz.func148,Tryz.ntmps148;go_wp2_with fail;refine(H1.out).mono ?_;rintro e w1 ⟨rfl,ag⟩;replace Hb:=az Hb ag;go_wp2;exact bodyPost_ret (v:=aj (decide (0<=i))) (by simp[results,Tryz.results148,go_sem]) rfl ⟨rfl,dH⟩
def atU (a:Option Addr)(n cap:Nat)(vals:List Value)(gf:Nat)(lb:Array Value)(p:Value->Bool)(w:World)(hn:vals.length=n)(hl:n<=1099511627776)(ha:At w a vals)
 (eg:∀args w,(callFunc gf args).run Tryz.prog w=.ok (.enter gf args) w)
 (hcl:∀v∈vals,∀W,Bw w W->Cl gf (#[v]++lb) W λe w'=>e=.returned (aj (p v))/\Bw W w'):
 Cv 150 #[.slice a n cap,.func (.func gf) #[] lb] w (ah (idxFrom p vals 0)):=by
 obtain⟨Hn,Ha,gP,tW⟩:=ej hn ha hcl eg;clear hn ha hcl eg;have Hb:=hbz w;go_enter Tryz.func150,Tryz.ntmps150;go_wp2_with fail;go_loopw[5,8] (λ_ i wr=>∃k:Nat,k<=n/\i=ah (k:Int)/\idxFrom p vals 0=idxFrom p (vals.drop k) k/\Bw w wr) (λ_ i _=>n-(intOf i).toNat);case atStart=>exact⟨0,Nat.zero_le _,rfl,rfl,Hb.out⟩
 case round=>
  clear Hb;obtain⟨k,hk,rfl,iV,pb⟩:=hrel;obtain⟨qI,Hb⟩:=aZ iV pb;clear iV pb;by_cases hlt:k<n
  . have bC:k<vals.length:=by rw[Hn.out];exact hlt
    obtain⟨b,o,hab,hcs⟩:=(Ha.out.below Hb.out).get (by intro h;rw[h]at bC;simp at bC);obtain⟨v,hv⟩:=aK (vals[k]);have hc0:wr.cell? ⟨b,o+k,none⟩=some v:=by rw[hcs k bC,List.getElem?_eq_getElem bC,hv]
    have bD:=EU n cap k (k:Int) hab hlt rfl;rw[Nat.mul_one]at bD;have hcall:=gP.out v (by rw[<-hv];exact List.getElem_mem bC) wr Hb.out;have hstep:=WK p vals k k bC;rw[hv,<-qI.out]at hstep;obtain⟨ll,rI⟩:=aZ hstep hcall;have wR:=tW.out;clear hcs hab hv hstep hcall;go_wp2_with fail;refine rI.out.mono ?_;rintro e w1 ⟨rfl,hb1⟩;replace Hb:=ar (aO Hb.out hb1);clear hb1 hc0 bD wR;obtain⟨t,ht⟩:=aK (p v);rw[ht]at ll⊢;clear ht;cases t with
    |true=>go_wp2;refine bodyPost_ret (results_tmp rfl _ _ _) rfl ⟨?_,Hb.out⟩;have h:=ll.out;rw[if_pos (by trivial)]at h;rw[h];rfl
    | false=>
      go_wp2;go_roundw;case rel=>exact⟨k+1,by omega,by go_num,by have h:=ll.out;rw[if_neg zd]at h;exact h,Hb.out⟩
      case measure=>exact bI
  . obtain rfl:k=n:=by omega
    go_wp2;refine bodyPost_ret (results_tmp rfl _ _ _) rfl ⟨?_,Hb.out⟩;have h:=qI.out;rw[List.drop_of_length_le (by rw[Hn.out];exact Nat.le_refl _)]at h;rw[h];rfl
def Pt (w:World)(v:Value)(cJ:List Raw):Prop:=∃a cap,v=.slice a cJ.length cap/\At w a (cJ.flatMap bG)
def Pt.below {w w':World}{v:Value}{cJ:List Raw}(h:Pt w v cJ)(hb:Bw w w'):Pt w' v cJ:=
 let ⟨a,cap,hv,ha⟩:=h;⟨a,cap,hv,ha.below hb⟩
def cZ (w:World)(a:Option Addr)(rows:List (List Raw)):Prop:=∃vals:List Value,vals.length=rows.length/\At w a vals/\∀i (h:i<rows.length) (h':i<vals.length),Pt w vals[i] rows[i]
def cZ.below {w w':World}{a:Option Addr}{rows:List (List Raw)}(h:cZ w a rows)(hb:Bw w w'):cZ w' a rows:=
 let ⟨vals,hl,ha,hp⟩:=h;⟨vals,hl,ha.below hb,λi h1 h2=>(hp i h1 h2).below hb⟩
def kL {w w':World}{a:Option Addr}{rows:List (List Raw)}(h:Hid (cZ w a rows))(k:Bw w w'):Hid (cZ w' a rows):=h.out.below k
def cZ.row {w:World}{a:Option Addr}{rows:List (List Raw)}(h:cZ w a rows)(k:Nat)(hk:k<rows.length):
 ∃b o a' cap',a=some ⟨b,o,none⟩/\w.cell? ⟨b,o+k,none⟩=some (.slice a' rows[k].length cap')/\At w a' (rows[k].flatMap bG):=by
 obtain⟨vals,hl,ha,hp⟩:=h;have hk2:k<vals.length:=by rw[hl];exact hk
 obtain⟨b,o,hab,hcs⟩:=ha.get (by intro h0;rw[h0]at hk2;simp at hk2);obtain⟨a',cap',hv,hat⟩:=hp k hk hk2;exact⟨b,o,a',cap',hab,by rw[hcs k hk2,List.getElem?_eq_getElem hk2,hv],hat⟩
def Al :Value->Int
 | .slice _ n _=>n
 |_=>0
def CK (N:Int)(v:Value):Bool:=decide (Al v≠N)
def abU {w:World}{vals:List Value}{rows:List (List Raw)}(N:Int)(hl:vals.length=rows.length)(hp:∀i (h:i<rows.length) (h':i<vals.length),Pt w vals[i] rows[i]):
 vals.any (CK N)=rows.any λr=>decide ((r.length:Int)≠N):=by
 induction vals generalizing rows with
 |nil=>have:rows=[]:=List.length_eq_zero_iff.1 hl.symm;subst this;rfl
 | cons v vs ih=>
   match rows,hl with
   |r::rs,hl=>have h0:=hp 0 zm zm;obtain⟨a,cap,hv,_⟩:=h0;have hv':v=.slice a r.length cap:=hv;have:=ih (rows:=rs) (by simpa using hl) (λi h h'=>hp (i+1) zi zi);rw[List.any_cons,List.any_cons,this];subst hv';rfl
def az6 (bn:Nat)(N:Int)(a:Option Addr)(n cap:Nat)(w:World)(hN:w.cell? ⟨bn,0,none⟩=some (ah N)):
 Cv 109 #[.slice a n cap,.pointer (some ⟨bn,0,none⟩)] w (aj (CK N (.slice a n cap))):=by
 have Hb:=hbz w;go_enter Tryz.func109,Tryz.ntmps109;go_wp2;refine bodyPost_ret (results_tmp rfl _ _ _) rfl ⟨?_,Hb.out⟩;simp only[CK,Al];by_cases h:(n:Int)=N<;>simp[h]
def nW (rows:List (List Raw)):Int:=
 let n:Int:=rows.length-1
 if n<1\/8<n\/(rows.any λr=>decide ((r.length:Int)≠n))then 0 else n
def ajm (a:Option Addr)(L cap:Nat)(rows:List (List Raw))(w:World)(hL:rows.length=L)(hl:L<=1099511627776)(ha:cZ w a rows):
 Cv 66 #[.slice a L cap] w (ah (nW rows)):=by
 obtain⟨vals,hvl,hat,hp⟩:=ha;have BQ:=λN=>abU (w:=w) N hvl hp;have hcl:∀(bn:Nat) (W:World),W.cell? ⟨bn,0,none⟩=some (ah ((L:Int)-1))->At W a vals->Cv 110 #[.slice a L cap,.func (.func 109) #[] #[.pointer (some ⟨bn,0,none⟩)]] W (aj (rows.any λr=>decide ((r.length:Int)≠(L:Int)-1))):=by intro bn W hc hA;rw[<-BQ];refine aqf a L cap vals 109 #[.pointer (some ⟨bn,0,none⟩)] (CK ((L:Int)-1)) W (by rw[hvl,hL]) hl hA (enters_of Tryz.func109 zk rfl) (λv hv W' hb=>?_);obtain⟨i,hi,rfl⟩:=List.mem_iff_getElem.1 hv;obtain⟨a',cap',e,_⟩:=hp i (by rw[<-hvl];exact hi) hi;rw[e];exact az6 bn _ a' _ cap' W' (cell_later hb hc)
 have hv:nW rows=if(L:Int)-1<1\/8<(L:Int)-1\/(rows.any λr=>decide ((r.length:Int)≠(L:Int)-1))=true then 0 else(L:Int)-1:=by unfold nW;rw[hL]
 obtain⟨T,hT⟩:=aK (rows.any λr=>decide ((r.length:Int)≠(L:Int)-1));rw[hT]at hv;simp only[hT]at hcl;obtain⟨gP,fW,Hv⟩:=cX hcl hat hv;obtain⟨V,hV⟩:=aK (nW rows);rw[hV]at Hv⊢;clear hcl hat hv BQ hvl hp hL hT hV;obtain⟨W,dK,Hb,Hn⟩:=jD w 3 [ah ((L:Int)-1)];have n0:=Hn.out.c1;go_enter Tryz.func66,Tryz.ntmps66;by_cases h1:(L:Int)-1<1
 . have hv:=Hv.out;rw[if_pos (.inl h1)]at hv;subst hv;go_wp2;exact bodyPost_ret (v:=ah 0) (by simp[results,Tryz.results66,go_sem]) rfl ⟨rfl,dH⟩
 . by_cases h2:8<(L:Int)-1
   . have hv:=Hv.out;rw[if_pos (.inr (.inl h2))]at hv;subst hv;go_wp2;exact bodyPost_ret (v:=ah 0) (by simp[results,Tryz.results66,go_sem]) rfl ⟨rfl,dH⟩
   . have rI:=ar (gP.out w.heap.size W n0 (fW.out.below Hb.out));go_wp2_with fail;refine(rI.out).mono ?_;rintro e w1 ⟨rfl,ag⟩;replace Hn:=kB Hn ag;have n0:=Hn.out.c1;replace Hb:=az Hb ag;cases T with
     |true=>have hv:=Hv.out;rw[if_pos (.inr (.inr rfl))]at hv;subst hv;go_wp2;exact bodyPost_ret (v:=ah 0) (by simp[results,Tryz.results66,go_sem]) rfl ⟨rfl,dH⟩
     |false=>have hv:=Hv.out;rw[if_neg (by rintro(h|h|h);omega;omega;cases h)]at hv;subst hv;go_wp2;exact bodyPost_ret (v:=ah ((L:Int)-1)) (by simp[results,Tryz.results66,go_sem]) rfl ⟨rfl,dH⟩
def avv (bn:Nat)(a0:Option Addr)(N c0:Nat)(a:Option Addr)(n cap:Nat)(w:World)(hN:w.cell? ⟨bn,0,none⟩=some (.slice a0 N c0)):
 Cv 149 #[.slice a n cap,.pointer (some ⟨bn,0,none⟩)] w (aj (CK (N:Int) (.slice a n cap))):=by
 have Hb:=hbz w;go_enter Tryz.func149,Tryz.ntmps149;go_wp2;refine bodyPost_ret (results_tmp rfl _ _ _) rfl ⟨?_,Hb.out⟩;simp only[CK,Al];by_cases h:(n:Int)=(N:Int)<;>simp[h]
def ye (rows:List (List Raw)):Int:=if 8<rows.length\/(rows.any λr=>decide ((r.length:Int)≠(rows.length:Int)))then 1 else 0
def Xg (a:Option Addr)(L cap:Nat)(rows:List (List Raw))(w:World)(hL:rows.length=L)(hl:L<=1099511627776)(ha:cZ w a rows):
 Cv 111 #[.slice a L cap] w (ah (ye rows)):=by
 obtain⟨vals,hvl,hat,hp⟩:=ha;have BQ:=λN=>abU (w:=w) N hvl hp;have hcl:∀(bn:Nat) (W:World),W.cell? ⟨bn,0,none⟩=some (.slice a L cap)->At W a vals->Cv 148 #[.slice a L cap,.func (.func 149) #[] #[.pointer (some ⟨bn,0,none⟩)]] W (aj (rows.any λr=>decide ((r.length:Int)≠(L:Int)))):=by intro bn W hc hA;rw[<-BQ];refine aqe a L cap vals 149 #[.pointer (some ⟨bn,0,none⟩)] (CK (L:Int)) W (by rw[hvl,hL]) hl hA (enters_of Tryz.func149 zk rfl) (λv hv W' hb=>?_);obtain⟨i,hi,rfl⟩:=List.mem_iff_getElem.1 hv;obtain⟨a',cap',e,_⟩:=hp i (by rw[<-hvl];exact hi) hi;rw[e];exact avv bn a L cap a' _ cap' W' (cell_later hb hc)
 have hv:ye rows=if 8<L\/(rows.any λr=>decide ((r.length:Int)≠(L:Int)))=true then 1 else 0:=by unfold ye;rw[hL]
 obtain⟨T,hT⟩:=aK (rows.any λr=>decide ((r.length:Int)≠(L:Int)));rw[hT]at hv;simp only[hT]at hcl;obtain⟨gP,fW,Hv⟩:=cX hcl hat hv;obtain⟨V,hV⟩:=aK (ye rows);rw[hV]at Hv⊢;clear hcl hat hv BQ hvl hp hL hT hV;obtain⟨W,dK,Hb,Hn⟩:=jD w 82 [.slice a L cap];have n0:=Hn.out.c1;go_enter Tryz.func111,Tryz.ntmps111;by_cases h1:8<L
 . have hv:=Hv.out;rw[if_pos (.inl h1)]at hv;subst hv;have h2:(8:Int)<(L:Int):=by omega
   go_wp2;exact bodyPost_ret (v:=ah 1) (by simp[results,Tryz.results111,go_sem]) rfl ⟨rfl,dH⟩
 . have h2:¬(8:Int)<(L:Int):=by omega
   have rI:=ar (gP.out w.heap.size W n0 (fW.out.below Hb.out));go_wp2_with fail;refine(rI.out).mono ?_;rintro e w1 ⟨rfl,ag⟩;replace Hn:=kB Hn ag;have n0:=Hn.out.c1;replace Hb:=az Hb ag;cases T with
   |true=>have hv:=Hv.out;rw[if_pos (.inr rfl)]at hv;subst hv;go_wp2;exact bodyPost_ret (v:=ah 1) (by simp[results,Tryz.results111,go_sem]) rfl ⟨rfl,dH⟩
   |false=>have hv:=Hv.out;rw[if_neg (by rintro(h|h);omega;cases h)]at hv;subst hv;go_wp2;exact bodyPost_ret (v:=ah 0) (by simp[results,Tryz.results111,go_sem]) rfl ⟨rfl,dH⟩
def Ql {rows:List (List Raw)}{n:Int}(h:nW rows=n)(h0:n≠0):1<=n/\n<=8/\(rows.length:Int)=n+1/\∀r∈rows,(r.length:Int)=n:=by
 unfold nW at h;dsimp only at h;split at h
 . exact absurd h.symm h0
 . rename_i hc
   simp only[not_or,Bool.not_eq_true,List.any_eq_false,decide_eq_true_eq,Decidable.not_not]at hc;obtain⟨h1,h2,h3⟩:=hc;refine⟨by omega,by omega,by omega,λr hr=>?_⟩;have:=h3 r hr;omega
def az7 {rows:List (List Raw)}{n:Nat}(h1:rows.length=n+1)(h2:∀r∈rows,r.length=n)(h3:1<=n)(h8:n<=8):nW rows=n:=by
 unfold nW;dsimp only;rw[if_neg]
 . omega
 . rintro(h|h|h)
   . omega
   . omega
   . rw[List.any_eq_true]at h;obtain⟨r,hr,h⟩:=h;have:=h2 r hr;simp[h1,this]at h
def At.drew {w:World}{a:Option Addr}{cs:List Value}(h:At w a cs):At w.drew a cs:=h
def At.alloc {w:World}{a:Option Addr}{cs:List Value}(h:At w a cs)(o:Obj):At (w.alloc o) a cs:=h.below zl
def Iy (r:List Raw):List Raw:=r.map λx=>canon (aJ x)
def arB (r:List Raw):(Iy r).length=r.length:=by simp[Iy]
def arA (r:List Raw):(Iy r).flatMap bG=dC (r.map aJ):=by rw[oh,List.map_map];rfl
def Own2 (e:TypeId)(w:World)(base:Nat)(R:List (List Dyadic))(k:Nat)(v:Value):Prop:=
 ∃vals:List Value,vals.length=k/\w.ownsRow base e 1 v k vals/\∀i (h:i<vals.length),∃a c,vals[i]=.slice a (R.getD i []).length c/\At w a (dC (R.getD i []))/\∀b o,a=some ⟨b,o,none⟩->some b≠v.ownBlock/\b<w.heap.size
def Own2.nil (e:TypeId)(w:World)(base:Nat)(R:List (List Dyadic)):Own2 e w base R 0 (.slice none 0 0):=
 ⟨[],rfl,World.ownsRow_nil _ _ _ _,λ_ h=>absurd h (Nat.not_lt_zero _)⟩
def Own2.below {e:TypeId}{w w':World}{base k:Nat}{R:List (List Dyadic)}{v:Value}(h:Own2 e w base R k v)(hb:Bw w w'):Own2 e w' base R k v:=by obtain⟨vals,hl,ho,hi⟩:=h;refine⟨vals,hl,ownsRow_below ho hb,λi h=>?_⟩;obtain⟨a,c,h1,h2,h3⟩:=hi i h;exact⟨a,c,h1,h2.below hb,λb o e=>⟨(h3 b o e).1,Nat.lt_of_lt_of_le (h3 b o e).2 hb.size⟩⟩
def Own2.push {e:TypeId}{w w':World}{base k:Nat}{R:List (List Dyadic)}{v v':Value}{vals:List Value}(hl:vals.length=k)(hi:∀i (h:i<vals.length),∃a c,vals[i]=.slice a (R.getD i []).length c/\At w a (dC (R.getD i []))/\∀b o,a=some ⟨b,o,none⟩->some b≠v.ownBlock/\b<w.heap.size)
 {a:Option Addr} {c:Nat} (ha:At w a (dC (R.getD k []))) (hab:∀b o,a=some ⟨b,o,none⟩->some b≠v.ownBlock/\b<w.heap.size)
 (ho:w'.ownsRow base e 1 v' (k+1) (vals++[.slice a (R.getD k []).length c])) (hg:w.grownBy w' v.ownBlock) (gY:v'.ownBlock=v.ownBlock\/v'.ownBlock=some w.heap.size):Own2 e w' base R (k+1) v':=by
 have hne:∀b,some b≠v.ownBlock->b<w.heap.size->some b≠v'.ownBlock:=by
  intro b h1 h2;rcases gY with h|h
  . rw[h];exact h1
  . rw[h];intro h3;simp at h3;omega
 refine⟨_,by simp[hl],ho,λi h=>?_⟩;by_cases hk:i<vals.length
 . obtain⟨a1,c1,h1,h2,h3⟩:=hi i hk;refine⟨a1,c1,by rw[List.getElem_append_left hk];exact h1,h2.grown hg (λb o e=>(h3 b o e).1),λb o e=>⟨hne b (h3 b o e).1 (h3 b o e).2,Nat.lt_of_lt_of_le (h3 b o e).2 hg.size⟩⟩
 . have hik:i=k:=by simp at h;omega
   subst hik;refine⟨a,c,?_,ha.grown hg (λb o e=>(hab b o e).1),λb o e=>⟨hne b (hab b o e).1 (hab b o e).2,Nat.lt_of_lt_of_le (hab b o e).2 hg.size⟩⟩;rw[List.getElem_append_right zo];simp[hl]
def PM {W:World}{base:Nat}{e:TypeId}{size:Nat}{a:Option Addr}{n c:Nat}{xs:List Value}(h:W.ownsRow base e size (.slice a n c) n xs):n<=c:=by
 rcases h.2 with⟨h1,h2⟩ |⟨g,cap,cur,h1,_,_,h2,_⟩
 . omega
 . simp at h1;omega
def Own2.tbl {e:TypeId}{w:World}{base k:Nat}{R:List (List Raw)}{v:Value}(h:Own2 e w base (R.map λr=>r.map aJ) k v)(hk:R.length=k):∃a c,v=.slice a k c/\k<=c/\cZ w a (R.map Iy):=by
 obtain⟨vals,hl,ho,hi⟩:=h;obtain⟨a,c,hv,hat,_⟩:=dS ho;subst hv;refine⟨a,c,rfl,PM ho,vals,by simp[hl,hk],hat,λi h1 h2=>?_⟩;obtain⟨a1,c1,e1,e2,_⟩:=hi i h2;have hi1:i<R.length:=by simpa using h1
 have eg:(R.map λr=>r.map aJ).getD i []=R[i].map aJ:=by simp[hi1]
 rw[eg]at e1 e2;refine⟨a1,c1,?_,?_⟩
 . rw[e1];simp[arB]
 . rw[List.getElem_map,arA];exact e2
def Tryz.aFU :(Tryz.prog.info? 32).map (λi=>(i.zero,i.size,i.bytes))=some (some (.slice none 0 0),1,24):=by kernel_rfl
def lA (o p:List Raw):List Dyadic:=List.zipWith (λx y=>aJ x-aJ y) p o
def Na {o p:List Raw}(h:p.length=o.length):(lA o p).length=p.length:=by simp[lA,h]
def aqN (o p:List Raw)(k:Nat)(h:k<p.length)(h':k<o.length):(lA o p).take (k+1)=(lA o p).take k++[aJ p[k]-aJ o[k]]:=by unfold lA;rw[List.take_succ_eq_append_getElem zi];simp
def Own2.aFZ {e:TypeId}{w:World}{base k:Nat}{R:List (List Dyadic)}{v:Value}(h:Own2 e w base R k v)(hk:R.length=k):∃a c,v=.slice a k c/\k<=c/\cZ w a (R.map λr=>r.map canon):=by
 obtain⟨vals,hl,ho,hi⟩:=h;obtain⟨a,c,hv,hat,_⟩:=dS ho;subst hv;refine⟨a,c,rfl,PM ho,vals,by simp[hl,hk],hat,λi h1 h2=>?_⟩;obtain⟨a1,c1,e1,e2,_⟩:=hi i h2;have hi1:i<R.length:=by simpa using h1
 have eg:R.getD i []=R[i]:=by simp[hi1]
 rw[eg]at e1 e2;refine⟨a1,c1,?_,?_⟩
 . rw[e1];simp
 . rw[List.getElem_map,<-oh];exact e2
def aig (b o cap m n:Nat)(rows:List (List Raw))(B:Nat)(w:World)(hL:rows.length=m+1)(hm:m<=8)(hcap:m+1<=cap)(oD:1<=m)(hn:1<=n)(hn8:n<=8)(hrow:∀r∈rows,r.length=n)(ha:cZ w (some ⟨b,o,none⟩) rows)
 (hfit:∀r∈rows,∀c∈r,Fit B c) (hB:B<=10000000) (hT:aM w):
 Cl 68 #[.slice (some ⟨b,o,none⟩) (m+1) cap] w λe w'=>∃a' c',e=.returned (.slice a' m c')/\m<=c'/\
  cZ w' a' (((rows.drop 1).map λp=>lA (rows.getD 0 []) p).map λr=>r.map canon)/\Bw w w':=by
 obtain⟨i0,hi,hz0,hz1,hz2⟩:=info_parts Tryz.aFN;obtain⟨j0,hj,hy0,hy1,hy2⟩:=info_parts Tryz.aFU;obtain⟨S,hS⟩:=aK ((rows.drop 1).map λp=>lA (rows.getD 0 []) p);have hSL:S.length=m:=by rw[<-hS];simp[hL]
 have xH:∀k (h0:0<rows.length) (h1:k+1<rows.length),S.getD k []=lA rows[0] rows[k+1]:=by
  intro k h0 h1;subst hS;have e0:rows.getD 0 []=rows[0]:=by simp[h0]
  rw[e0];have h2:k<(rows.drop 1).length:=by simp;omega
  simp[h1]
 rw[hS];have hcell:=λ(W:World) (h:cZ W (some ⟨b,o,none⟩) rows) (k:Nat) (hk:k<rows.length)=>h.row k hk;obtain⟨Hi,dF,dv,di,Hj,vG,xm,xo,HSL,QG,QY,HT⟩:=gg hi hz0 hz1 hz2 hj hy0 hy1 hy2 hSL xH hcell hT;obtain⟨Ha,mn,tX,HL⟩:=ej ha hrow hfit hL;clear hi hz0 hz1 hz2 hj hy0 hy1 hy2 hS hSL xH hcell ha hT hL hrow hfit;have e1:m+1-1=m:=by omega
 have e2:¬cap=1:=by omega
 go_enter Tryz.func68,Tryz.ntmps68;have Hb:=hbz w;go_wp2_with fail;obtain⟨r0,Co⟩:=aK (rows[0]'(by rw[HL.out];omega));obtain⟨_,_,a0,c0,Vb,hc0,ow⟩:=QY.out w Ha.out 0 (by rw[HL.out];omega);obtain⟨rfl,rfl⟩:b=_/\o=_:=by simp at Vb;exact Vb
 have hn0:r0.length=n:=by rw[<-Co];exact mn.out _ (List.getElem_mem _)
 have Ji:∀x∈r0,Fit B x:=by rw[<-Co];exact tX.out _ (List.getElem_mem _)
 have sQ:∀k (h1:k+1<rows.length),S.getD k []=lA r0 rows[k+1]:=λk h1=>by rw[QG.out k zo h1,Co]
 rw[Co]at hc0 ow;rw[hn0]at hc0;rw[Nat.add_zero]at hc0;have ix0:=Ai (m+1) cap 0 0 (show some (⟨b,o,none⟩:Addr)=some ⟨b,o,none⟩from rfl) zo rfl;rw[Nat.mul_one,Nat.add_zero]at ix0;obtain⟨Dh,yG,rL,Rl,AL⟩:=fU hc0 ow hn0 Ji sQ;have kU:b<w.heap.size:=World.block_lt_of_cell? w _ hc0;clear hc0 ow hn0 Ji sQ Co Vb Hb;go_loopw[3,11] (λs3 x wr=>∃(k:Nat) (v:Value),k<=m/\x=ah (k:Int)/\v=s3/\Own2 32 wr w.heap.size S k v/\Bw w wr) (λ_ x _=>m-(intOf x).toNat);case atStart=>exact⟨0,_,Nat.zero_le _,rfl,rfl,Own2.nil _ _ _ _,Below.refl _ _⟩
 case round=>
  obtain⟨k,v,hk,rfl,rfl,pv,pb⟩:=hrel;by_cases hlt:k<m
  . have hk2:k+1<rows.length:=by rw[HL.out];omega
    obtain⟨p,kw⟩:=aK (rows[k+1]);obtain⟨_,_,a1,c1,hab,hc1,hat⟩:=QY.out wr (Ha.out.below pb) (k+1) hk2;obtain⟨rfl,rfl⟩:b=_/\o=_:=by simp at hab;exact hab
    have kv:p.length=n:=by rw[<-kw];exact mn.out _ (List.getElem_mem hk2)
    have lK:∀x∈p,Fit B x:=by rw[<-kw];exact tX.out _ (List.getElem_mem hk2)
    have xI:=AL.out k hk2;rw[kw]at hc1 hat xI;rw[kv]at hc1;have sV:=Ai m (cap-1) k (k:Int) (show some (⟨b,o+1,none⟩:Addr)=some ⟨b,o+1,none⟩from rfl) hlt rfl;rw[Nat.mul_one]at sV;have asL:wr.cell? ⟨b,o+1+k,none⟩=some (.slice a1 n c1):=by rw[show o+1+k=o+(k+1)by omega];exact hc1
    obtain⟨Z,hZ⟩:=aK (lA r0 p);rw[hZ]at xI;obtain⟨fW,ub,yP,Dd,HZ,bj,eK⟩:=mE hat kv lK xI hZ pb pv;clear hat kv lK xI hZ pb pv hab kw hc1;have gM:=bj.out.size;obtain⟨wc,hwc⟩:∃wc,wc=wr:=⟨_,rfl⟩;subst hwc;go_wp2_with fail;go_loopw[6,17] (λs6 x wr=>∃(j:Nat) (v2:Value),j<=n/\x=ah (j:Int)/\v2=s6/\wr.ownsRow wc.heap.size 48 3 v2 j (dC (Z.take j))/\Bw wc wr) (λ_ x _=>n-(intOf x).toNat);case atStart=>exact⟨0,_,Nat.zero_le _,rfl,rfl,World.ownsRow_nil _ _ _ _,Below.refl _ _⟩
    case round=>
     clear asL;obtain⟨j,v2,hj,rfl,rfl,ho,hb2⟩:=hrel;by_cases bC:j<n
     . have k1:j<p.length:=by rw[ub.out];exact bC
       have k2:j<r0.length:=by rw[rL.out];exact bC
       obtain⟨sp,mp,ep,pW⟩:=pJ (p[j]);obtain⟨sq,mq,eq,OW⟩:=pJ (r0[j]);have jy:=yP.out _ (List.getElem_mem k1);have Jj:=Rl.out _ (List.getElem_mem k2);rw[pW]at jy;rw[OW]at Jj;obtain⟨X,hX⟩:=aK (aJ (sp,mp,ep)-aJ (sq,mq,eq));have xg:Hid (dC (Z.take (j+1))=dC (Z.take j)++[aj (aC (dN X)),ai (nt (dN X).natAbs),ah (dE X)]):=by
        show _=_
        rw[<-HZ.out,aqN _ _ _ k1 k2,BA,pW,OW,hX];rfl
       have eO:=aO bj.out hb2;obtain⟨b1,o1,sU,p0,p1,p2⟩:=(fW.out.below hb2).num j k1 pW;obtain⟨b2,o2,iM,q0,q1,q2⟩:=(yG.out.below eO).num j k2 OW;have afj:=EW n c1 j (j:Int) sU bC rfl;have aCO:=EW n c0 j (j:Int) iM bC rfl;have rD:b1<wc.heap.size:=(by subst sU;exact fW.out.lt (by intro h0;have:=congrArg List.length h0;rw[kj bG 3 (λ_=>rfl)]at this;simp at this;omega));have oJ:b2<wc.heap.size:=Nat.lt_of_lt_of_le (by subst iM;exact yG.out.lt (by intro h0;have:=congrArg List.length h0;rw[kj bG 3 (λ_=>rfl)]at this;simp at this;omega)) gM;have lbc:b<wc.heap.size:=Nat.lt_of_lt_of_le kU gM;have Hu:Hid (bH wr b o [.slice a0 n c0]):=λi hi=>by
        obtain rfl:i=0:=by simp at hi;omega
        exact cell_later eO Dh.out
       have Hp:Hid (bH wr b1 (o1+j*3) [aj sp,ai mp,ah ep]):=jH p0 p1 p2;have Hq:Hid (bH wr b2 (o2+j*3) [aj sq,ai mq,ah eq]):=jH q0 q1 q2;obtain⟨wY,Hfq,HX,Ho,AQ,tQ⟩:=iq jy Jj hX ho hb2 (HT.out.below eO);have KW:=hb2.size;clear ho hb2 jy Jj hX pW OW sU iM p0 p1 p2 q0 q1 q2 eO;have Hb:=hbz wr;go_wp2_with fail;have u0:=Hu.out.w1;obtain⟨p0,p1,p2⟩:=Hp.out.w3;obtain⟨q0,q1,q2⟩:=Hq.out.w3;refine bV (λw'=>aF w' b o (.slice a0 n c0)/\aF w' b1 (o1+j*3) (aj sp)/\aF w' b1 (o1+j*3+1) (ai mp)/\aF w' b1 (o1+j*3+2) (ah ep)/\aF w' b2 (o2+j*3) (aj sq)/\aF w' b2 (o2+j*3+1) (ai mq)/\aF w' b2 (o2+j*3+2) (ah eq)) (λi=>Nat.blt i 100000) [(0,true),(1,true),(2,true),(3,true),(4,true),(5,true),(6,true),(7,true),(8,true),(9,true),(10,true),(11,false),(12,false),(13,false),(14,true)] zk zk rfl zk zc ⟨u0,p0,p1,p2,q0,q1,q2⟩ ?_;iterate 11 (refine pT rfl rfl ?_ (by intro w' ⟨q0,q1,q2,q3,q4,q5,q6⟩;go_simp;try with_reducible rfl))
       refine aR rfl rfl (λK hK=>?_);go_simp;with_reducible refine(TL sp mp ep sq mq eq X B HX.out _ wY.out Hfq.out zo (by first|exact tQ.out|exact aM.drew tQ.out|exact aM.alloc tQ.out _|exact aM.drew (aM.alloc tQ.out _) |exact aM.alloc (aM.drew tQ.out) _)).mono ?_
       rintro e w6 ⟨rfl,hq⟩;have ag:Bw wr w6:=by first|exact hq|exact bo hq
       replace Hu:=kW Hu ag;replace Hp:=kW Hp ag;replace Hq:=kW Hq ag;have u0:=Hu.out.w1;obtain⟨p0,p1,p2⟩:=Hp.out.w3;obtain⟨q0,q1,q2⟩:=Hq.out.w3;replace Hb:=az Hb ag;refine hK _ _ (λ_=>⟨u0,p0,p1,p2,q0,q1,q2⟩) ?_
       refine aR rfl rfl (λK hK=>?_);go_simp;refine hK _ _ (λ_=>⟨aV u0,aV p0,aV p1,aV p2,aV q0,aV q1,aV q2⟩) ?_
       refine bZ (λw7=>au w7 (w6.heap.size) 48 [aj (aC (dN X)),ai (nt (dN X).natAbs),ah (dE X)]/\Bw w6 w7) (by first|exact eo|exact eu) ?_;rintro w7 ⟨qc,ag⟩;replace Hu:=kW Hu ag;replace Hp:=kW Hp ag;replace Hq:=kW Hq ag;have Hc:=ar qc;clear qc;have u0:=Hu.out.w1;obtain⟨p0,p1,p2⟩:=Hp.out.w3;obtain⟨q0,q1,q2⟩:=Hq.out.w3;obtain⟨c0,c1,c2⟩:=Hc.out.c3;replace Hb:=az Hb ag;refine aR rfl rfl (λK hK=>?_);have dR:=ownsRow_below Ho.out Hb.out;have ky:=Hb.out.size;refine wp_append_own _ _ _ 32 rfl wc.heap.size 48 i0 _ 3 32 Tryz.underlying32 Hi.out dF.out dv.out di.out rfl zd v2 j (dC (Z.take j)) rfl dR ⟨w6.heap.size,0,none⟩ 1 1 [aj (aC (dN X)),ai (nt (dN X).natAbs),ah (dE X)] rfl rfl (gW Hc.out) zy zx zo zo ?_;intro v' w8 eV bM _;obtain⟨g',cq,rfl⟩:=ownsRow_succ eV;have nb:∀b,b<wc.heap.size->some b≠v2.ownBlock:=λb hb e=>by have:=dX dR b e.symm;omega
       refine hK _ _ (λ_=>⟨dc bM u0 (nb _ lbc),dc bM p0 (nb _ rD),dc bM p1 (nb _ rD),dc bM p2 (nb _ rD),dc bM q0 (nb _ oJ),dc bM q1 (nb _ oJ),dc bM q2 (nb _ oJ)⟩) ?_
       refine pT rfl rfl ?_
       simp only[bu];go_wp2;go_roundw;case rel=>
        refine⟨j+1,_,by omega,by go_num,rfl,?_,?_⟩
        . rw[xg.out];exact eV
        . exact(aO AQ.out Hb.out).grown bM zo (λj e=>dX dR j e)
       case measure=>exact bI
     . obtain rfl:j=n:=by omega
       have uB:Z.take j=Z:=List.take_of_length_le (by rw[<-HZ.out,Na (by rw[ub.out,rL.out]),ub.out];exact Nat.le_refl _);rw[uB]at ho;obtain⟨a2,cap2,rfl,jR,iM⟩:=dS ho;have fS:=ho.lt;obtain⟨vals,hvl,hov,tj⟩:=eK.out.below hb2;have Hb:=hbz wr;obtain⟨_,_,Ab,_⟩:=eK.out;have hvs:=Ab.lt;have hin:∀b o,a2=some ⟨b,o,none⟩->some b≠v.ownBlock/\b<wr.heap.size:=by intro b o e;subst e;have h1:=fS b rfl;refine⟨λh2=>?_,h1.2⟩;have h3:=hvs b h2.symm;omega
       obtain⟨yK,wN,ue,Bf,dQ,dD⟩:=iq hin jR hvl tj hov hb2;have vh:=hb2.size;have yE:Hid (Z.length=j):=by show _=_;rw[<-HZ.out,Na (by rw[ub.out,rL.out]),ub.out]
       clear hin jR hvl tj hov Ab hvs hb2 iM fS uB ho bC hj;obtain⟨W6,uz,ag,Hd⟩:=cE wr 32 [.slice a2 j cap2];have d0:=Hd.out.c1;replace Hb:=az Hb ag;have dR:=ownsRow_below dQ.out Hb.out;have ky:=Hb.out.size;have hnews:∀i u,([.slice a2 j cap2]:List Value)[i]?=some u->W6.cell? ((⟨wr.heap.size,0,none⟩:Addr).add i)=some u:=gW Hd.out;go_wp2_with (at_builtin;refine wpList_append_own_at _ rfl _ _ 82 rfl w.heap.size 32 j0 _ 1 24 Tryz.underlying82 Hj.out vG.out xm.out xo.out rfl zd v k vals rfl dR ⟨wr.heap.size,0,none⟩ 1 1 [.slice a2 j cap2] rfl rfl hnews zy zx zo zo ?_;intro v' w7 fg fM _ gY;obtain⟨g',sL,rfl⟩:=ownsRow_succ fg);go_roundw;case rel=>
        refine⟨k+1,_,by omega,by go_num,rfl,?_,?_⟩
        . refine Own2.push (a:=a2) (c:=cap2) ue.out (w:=W6) ?_ ?_ ?_ ?_ fM gY
          . intro i h;obtain⟨a,c,h1,h2,h3⟩:=Bf.out i h;exact⟨a,c,h1,h2.below Hb.out,λb o e=>⟨(h3 b o e).1,Nat.lt_of_lt_of_le (h3 b o e).2 ky⟩⟩
          . rw[Dd.out];exact wN.out.below Hb.out
          . exact λb o e=>⟨(yK.out b o e).1,Nat.lt_of_lt_of_le (yK.out b o e).2 ky⟩
          . rw[Dd.out,yE.out];exact fg
        . exact(aO (aO bj.out dD.out) Hb.out).grown fM zo (λj e=>dX dR j e)
       case measure=>exact bI
  . obtain rfl:k=m:=by omega
    obtain⟨a2,c2,rfl,hcl,nz⟩:=Own2.aFZ pv HSL.out;obtain⟨DF,bj⟩:=aZ nz pb;clear pv pb nz;go_wp2;refine bodyPost_ret (results_tmp rfl _ _ _) rfl ⟨a2,c2,rfl,hcl,DF.out,bj.out⟩
def Tryz.aF2 :(Tryz.prog.info? 46).map (λi=>(i.zero,i.size,i.bytes))=some (some (.agg #[aj false,.string (bs [])]),2,24):=by kernel_rfl
def Tryz.aF3 :(Tryz.prog.info? 130).map (λi=>(i.zero,i.size,i.bytes))=some (some (.slice none 0 0),1,24):=by kernel_rfl
def iC (z:Int):List Value:=[aj (aC z),ai (nt z.natAbs)]
def zC (zs:List Int):List Value:=zs.flatMap iC
def aAP (a b:List Int):zC (a++b)=zC a++zC b:=by unfold zC;rw[List.flatMap_append]
def kg (w:World)(base n:Nat)(R:List (List Int))(k:Nat)(v:Value):Prop:=
 ∃vals:List Value,vals.length=k/\w.ownsRow base 130 1 v k vals/\(∀i (h:i<vals.length),w.ownsRow base 46 2 vals[i] n (zC (R.getD i [])))/\
  ∀i j (hi:i<vals.length) (hj:j<vals.length) g,vals[i].ownBlock=some g->vals[j].ownBlock=some g->i=j
def kg.nil (w:World)(base n:Nat)(R:List (List Int)):kg w base n R 0 (.slice none 0 0):=
 ⟨[],rfl,World.ownsRow_nil _ _ _ _,λ_ h=>absurd h (Nat.not_lt_zero _),λ_ _ h=>absurd h (Nat.not_lt_zero _)⟩
def kg.below {w w':World}{base n k:Nat}{R:List (List Int)}{v:Value}(h:kg w base n R k v)(hb:Bw w w'):kg w' base n R k v:=by obtain⟨vals,hl,ho,hi,hd⟩:=h;exact⟨vals,hl,ownsRow_below ho hb,λi h=>ownsRow_below (hi i h) hb,hd⟩
def KP {W:World}{b1 b2 e1 e2 s1 s2 k1 k2:Nat}{v1 v2:Value}{x1 x2:List Value}(h1:W.ownsRow b1 e1 s1 v1 k1 x1)(h2:W.ownsRow b2 e2 s2 v2 k2 x2)(he:e1≠e2):v1.ownBlock=none\/v1.ownBlock≠v2.ownBlock:=by
 rcases h1.2 with⟨rfl,_⟩ |⟨g,cap,cur,rfl,_,hg,_⟩
 . exact .inl rfl
 . refine .inr λh=>?_;rcases h2.2 with⟨rfl,_⟩ |⟨g',cap',cur',rfl,_,hg',_⟩
   . simp[Value.ownBlock]at h
   . simp only[Value.ownBlock,Option.some.injEq]at h;subst h;rw[hg]at hg';simp at hg';exact he hg'.2
def tu {W:World}{base base':Nat}{e:TypeId}{size:Nat}{v:Value}{n:Nat}{xs:List Value}(h:W.ownsRow base e size v n xs)(hb:base'<=base):W.ownsRow base' e size v n xs:=by
 refine⟨h.1,?_⟩;rcases h.2 with h2|⟨g,cap,cur,h1,h2,h3⟩
 . exact .inl h2
 . exact .inr ⟨g,cap,cur,h1,Nat.le_trans hb h2,h3⟩
def kg.push {w w':World}{base n k:Nat}{R:List (List Int)}{v v' x:Value}{vals:List Value}(hl:vals.length=k)(hov:w.ownsRow base 130 1 v k vals)(hi:∀i (h:i<vals.length),w.ownsRow base 46 2 vals[i] n (zC (R.getD i [])))
 (hd:∀i j (hi:i<vals.length) (hj:j<vals.length) g,vals[i].ownBlock=some g->vals[j].ownBlock=some g->i=j)
 (hx:w.ownsRow base 46 2 x n (zC (R.getD k []))) (jz:∀g,x.ownBlock=some g->∀i (h:i<vals.length),vals[i].ownBlock≠some g)
 (ho:w'.ownsRow base 130 1 v' (k+1) (vals++[x])) (hg:w.grownBy w' v.ownBlock):kg w' base n R (k+1) v':=by
 refine⟨_,by simp[hl],ho,λi h=>?_,λi j h1 h2 g e1 e2=>?_⟩
 . by_cases hk:i<vals.length
   . rw[List.getElem_append_left hk];exact(hi i hk).kept hg (KP (hi i hk) hov zd)
   . have hik:i=k:=by simp at h;omega
     subst hik;rw[List.getElem_append_right zo];simp only[hl,Nat.sub_self,List.getElem_cons_zero];exact hx.kept hg (KP hx hov zd)
 . by_cases k1:i<vals.length
   . rw[List.getElem_append_left k1]at e1;by_cases k2:j<vals.length
     . rw[List.getElem_append_left k2]at e2;exact hd i j k1 k2 g e1 e2
     . have hjk:j=k:=by simp at h2;omega
       subst hjk;rw[List.getElem_append_right zo]at e2;simp only[hl,Nat.sub_self,List.getElem_cons_zero]at e2;exact absurd e1 (jz g e2 i k1)
   . have hik:i=k:=by simp at h1;omega
     subst hik;rw[List.getElem_append_right zo]at e1;simp only[hl,Nat.sub_self,List.getElem_cons_zero]at e1;by_cases k2:j<vals.length
     . rw[List.getElem_append_left k2]at e2;exact absurd e2 (jz g e1 j k2)
     . simp at h2;omega
def nI (l:Int)(ds:List Dyadic):Int:=ds.foldl (λl d=>min l (dE d)) l
def oM (l:Int)(R:List (List Dyadic)):Int:=R.foldl nI l
def tB (low:Int)(d:Dyadic):Int:=dN d*2^(dE d-low).toNat
def ag9 (l:Int)(ds:List Dyadic):nI l ds<=l/\∀d∈ds,nI l ds<=dE d:=by
 induction ds generalizing l with
 |nil=>exact⟨Int.le_refl _,λd h=>by cases h⟩
 | cons x xs ih=>
   have h:=ih (min l (dE x));have e:nI l (x::xs)=nI (min l (dE x)) xs:=rfl;rw[e];refine⟨by omega,λd hd=>?_⟩;rcases List.mem_cons.1 hd with rfl|hd
   . omega
   . exact h.2 d hd
def WY (l:Int)(R:List (List Dyadic)):oM l R<=l/\∀r∈R,∀d∈r,oM l R<=dE d:=by
 induction R generalizing l with
 |nil=>exact⟨Int.le_refl _,λd h=>by cases h⟩
 | cons x xs ih=>
   have h:=ih (nI l x);have h1:=ag9 l x;have e:oM l (x::xs)=oM (nI l x) xs:=rfl;rw[e];refine⟨by omega,λr hr d hd=>?_⟩;rcases List.mem_cons.1 hr with rfl|hr
   . have:=h1.2 d hd;omega
   . exact h.2 r hr d hd
def ag8 (l:Int)(ds:List Dyadic)(m:Int)(hl:m<=l)(h:∀d∈ds,m<=dE d):m<=nI l ds:=by
 induction ds generalizing l with
 |nil=>exact hl
 |cons x xs ih=>have hx:=h x (List.mem_cons_self ..);exact ih (min l (dE x)) zo (λd hd=>h d (List.mem_cons_of_mem _ hd))
def WX (l:Int)(R:List (List Dyadic))(m:Int)(hl:m<=l)(h:∀r∈R,∀d∈r,m<=dE d):m<=oM l R:=by
 induction R generalizing l with
 |nil=>exact hl
 |cons x xs ih=>exact ih (nI l x) (ag8 l x m hl (h x (List.mem_cons_self ..))) (λr hr=>h r (List.mem_cons_of_mem _ hr))
def auR (l:Int)(ds:List Dyadic)(k:Nat)(h:k<ds.length):nI l (ds.take (k+1))=min (nI l (ds.take k)) (dE ds[k]):=by unfold nI;rw[List.take_succ_eq_append_getElem h,List.foldl_append];rfl
def auS (l:Int)(R:List (List Dyadic))(k:Nat)(h:k<R.length):oM l (R.take (k+1))=nI (oM l (R.take k)) R[k]:=by unfold oM;rw[List.take_succ_eq_append_getElem h,List.foldl_append];rfl
def arv (x y z:Value)(W:World):(Instr.field 48 (.agg #[x,y,z]) 1).run Tryz.prog W=.ok z W:=by kernel_rfl
def ayR (low:Int)(d:Dyadic)(h:low<=dE d):Dyadic.ofIntWithPrec (tB low d) (-low)=d:=by
 have e: -low= -(dE d)+((dE d-low).toNat:Int):=by omega
 unfold tB;rw[e,wA];exact(uV d).symm
def aiu (a:Option Addr)(L cap n:Nat)(rows:List (List Raw))(B:Nat)(low:Int)(w:World)(hL:rows.length=L)(hL8:L<=8)(hn8:n<=8)(hrow:∀r∈rows,r.length=n)(ha:cZ w a rows)
 (hfit:∀r∈rows,∀c∈r,Fit B c) (hB:B<=10000000) (hT:aM w) (lI:oM 0 (rows.map λr=>r.map aJ)=low):
 Cl 112 #[.slice a L cap] w λe w'=>∃v,e=.returned (.tuple #[v,ah (-low)])/\
  kg w' w.heap.size n ((rows.map λr=>r.map aJ).map λr=>r.map (tB low)) L v/\Bw w w':=by
 obtain⟨i0,hi,hz0,hz1,hz2⟩:=info_parts Tryz.aF2;obtain⟨j0,hj,hy0,hy1,hy2⟩:=info_parts Tryz.aF3;obtain⟨D,hD⟩:=aK (rows.map λr=>r.map aJ);have hDL:D.length=L:=by rw[<-hD];simp[hL]
 have hDk:∀k (h:k<rows.length) (h':k<D.length),D[k]=rows[k].map aJ:=λk h h'=>by subst hD;simp
 have IG:∀r∈D,∀d∈r,-268435456<=dE d/\dE d<=268435456:=by intro r hr d hd;rw[<-hD]at hr;obtain⟨r',hr',rfl⟩:=List.mem_map.1 hr;obtain⟨x,hx,rfl⟩:=List.mem_map.1 hd;exact(((hfit r' hr' x hx).2).fit zo).1.2
 rw[hD]at lI⊢;have hlo:low<=0/\∀r∈D,∀d∈r,low<=dE d:=by rw[<-lI];exact WY 0 D
 have hlb: -268435456<=low:=by rw[<-lI];exact WX 0 D _ zd (λr hr d hd=>(IG r hr d hd).1)
 have Ad:∀k j (h:k<D.length) (h':j<=D[k].length),-268435456<=nI (oM 0 (D.take k)) (D[k].take j)/\nI (oM 0 (D.take k)) (D[k].take j)<=0:=by intro k j h h';have g1: -268435456<=oM 0 (D.take k):=WX 0 _ _ zd (λr hr d hd=>(IG r (List.mem_of_mem_take hr) d hd).1);have g2:=(WY 0 (D.take k)).1;have g3:=(ag9 (oM 0 (D.take k)) (D[k].take j)).1;exact⟨ag8 _ _ _ g1 (λd hd=>(IG _ (List.getElem_mem h) d (List.mem_of_mem_take hd)).1),by omega⟩
 obtain⟨Hi,dF,dv,di,Hj,vG,xm,xo,QB,Zn,HDe,alZ⟩:=gg hi hz0 hz1 hz2 hj hy0 hy1 hy2 hDL hDk IG lI;obtain⟨Hlo,gT,Dy,Ha,HT,mn,tX,HL⟩:=oK hlo hlb Ad ha hT hrow hfit hL;have hnl:IntKind.i64.wrap (-low)= -low:=by rw[IntKind.wrap_i64];omega
 obtain⟨nl,VN⟩:=aK (-low);obtain⟨S,hS⟩:=aK (D.map λr=>r.map (tB low));have xH:∀k (h:k<D.length),S.getD k []=D[k].map (tB low):=λk h=>by subst hS;simp[h]
 rw[hS,VN];have afF:IntKind.i64.wrap (-low)=nl:=by rw[hnl,VN]
 obtain⟨RS,QG⟩:=aZ afF xH;clear hnl VN afF hS xH hi hz0 hz1 hz2 hj hy0 hy1 hy2 Ad hlb hlo IG hDk hDL lI ha hT hrow hfit hL hD;go_enter Tryz.func112,Tryz.ntmps112;have Hb:=hbz w;go_wp2_with fail;go_loopw[4,18] (λs4 x wr=>∃k:Nat,k<=L/\x=ah (k:Int)/\s4=ah (oM 0 (D.take k))/\Bw w wr) (λ_ x _=>L-(intOf x).toNat);case atStart=>exact⟨0,Nat.zero_le _,rfl,rfl,Hb.out⟩
 case round=>
  clear Hb;obtain⟨k,hk,rfl,rfl,pb⟩:=hrel;by_cases hlt:k<L
  . have hk2:k<rows.length:=by rw[HL.out];exact hlt
    have hk3:k<D.length:=by rw[QB.out];exact hlt
    obtain⟨p,kw⟩:=aK (rows[k]);obtain⟨b,o,a1,c1,hab,hc1,hat⟩:=(Ha.out.below pb).row k hk2;have kv:p.length=n:=by rw[<-kw];exact mn.out _ (List.getElem_mem hk2)
    have lK:∀x∈p,Fit B x:=by rw[<-kw];exact tX.out _ (List.getElem_mem hk2)
    have xB:=Zn.out k hk2 hk3;rw[kw]at hc1 hat xB;rw[kv]at hc1;have sV:=EX L cap k (k:Int) hab hlt rfl;rw[Nat.mul_one]at sV;have hst:=auS 0 D k hk3;have hpt:=λj (h:j<=n)=>Dy.out k j hk3 (by rw[xB,List.length_map,kv];exact h);rw[xB]at hst;simp only[xB]at hpt;obtain⟨l0,hl0⟩:=aK (oM 0 (D.take k));rw[hl0]at hst⊢;simp only[hl0]at hpt;obtain⟨fW,ub,yP,cn,iD,bj⟩:=iq hat kv lK hst hpt pb;clear hat kv lK hst hpt pb hab kw xB hl0 hk2 hk3;obtain⟨wc,hwc⟩:∃wc,wc=wr:=⟨_,rfl⟩;subst hwc;have gM:=bj.out.size;go_wp2_with fail;go_loopw[4,24] (λs4 x wr=>∃j:Nat,j<=n/\x=ah (j:Int)/\s4=ah (nI l0 ((p.map aJ).take j))/\Bw wc wr) (λ_ x _=>n-(intOf x).toNat);case atStart=>exact⟨0,Nat.zero_le _,rfl,rfl,Below.refl _ _⟩
    case round=>
     clear hc1;obtain⟨j,hj,rfl,rfl,hb2⟩:=hrel;by_cases bC:j<n
     . have k1:j<p.length:=by rw[ub.out];exact bC
       obtain⟨sp,mp,ep,pW⟩:=pJ (p[j]);have jy:=yP.out _ (List.getElem_mem k1);have hst:=auR l0 (p.map aJ) j (by simpa using k1);rw[List.getElem_map,pW]at hst;rw[pW]at jy;obtain⟨X,hX⟩:=aK (aJ (sp,mp,ep));rw[hX]at hst;obtain⟨l1,uI⟩:=aK (nI l0 ((p.map aJ).take j));rw[uI]at hst⊢;obtain⟨b1,o1,sU,p0,p1,p2⟩:=(fW.out.below hb2).num j k1 pW;have afj:=kP n c1 j (j:Int) sU bC rfl;have Hp:Hid (bH wr b1 (o1+j*3) [aj sp,ai mp,ah ep]):=jH p0 p1 p2;obtain⟨wY,HX,AQ,xg,tQ⟩:=fU jy.1 hX hb2 hst ((HT.out.below bj.out).below hb2);clear hb2 jy hX hst pW sU p0 p1 p2 uI;have Hb:=hbz wr;obtain⟨p0,p1,p2⟩:=Hp.out.w3;have P0:=p0;have P1:=p1;have P2:=p2;have fl:=arv (aj (aC (dN X))) (ai (nt (dN X).natAbs)) (ah (dE X));obtain⟨W4,ov,ag,Hc⟩:=cE wr 48 [aj sp,ai mp,ah ep];replace Hp:=kW Hp ag;obtain⟨p0,p1,p2⟩:=Hp.out.w3;obtain⟨c0,c1,c2⟩:=Hc.out.c3;replace Hb:=az Hb ag;have HT:Hid (aM W4):=tQ.out.below Hb.out;go_wp2_with fail;refine(sM sp mp ep X HX.out _ wY.out HT.out).mono ?_;rintro e w5 ⟨rfl,ag⟩;replace Hp:=kW Hp ag;obtain⟨Hc,c0,c1,c2⟩:=cm Hc ag;replace HT:=kT HT ag;obtain⟨p0,p1,p2⟩:=Hp.out.w3;replace Hb:=az Hb ag;go_wp2;go_roundw;case rel=>exact⟨j+1,by omega,by go_num,by rw[xg.out],aO AQ.out Hb.out⟩
       case measure=>exact bI
     . obtain rfl:j=n:=by omega
       have hpt:(p.map aJ).take j=p.map aJ:=List.take_of_length_le (by simp[ub.out]);rw[hpt];go_wp2;go_roundw;case rel=>exact⟨k+1,by omega,by go_num,by rw[cn.out],aO bj.out hb2⟩
       case measure=>exact bI
  . obtain rfl:k=L:=by omega
    have hDt:D.take k=D:=List.take_of_length_le (by rw[QB.out];exact Nat.le_refl _);rw[hDt,alZ.out];have bj:=ar pb;clear pb hDt;obtain⟨wa,hwa⟩:∃wa,wa=wr:=⟨_,rfl⟩;subst hwa;have Yw:=bj.out.size;go_wp2_with fail;go_loopw[9,37] (λs9 x wr=>∃(i:Nat) (v:Value),i<=k/\x=ah (i:Int)/\v=s9/\kg wr w.heap.size n S i v/\Bw w wr) (λ_ x _=>k-(intOf x).toNat);case atStart=>exact⟨0,_,Nat.zero_le _,rfl,rfl,kg.nil _ _ _ _,bj.out⟩
    case round=>
     clear bj Yw;obtain⟨i,v,hk,rfl,rfl,pv,pb⟩:=hrel;by_cases hlt:i<k
     . have hk2:i<rows.length:=by rw[HL.out];exact hlt
       have hk3:i<D.length:=by rw[QB.out];exact hlt
       obtain⟨p,kw⟩:=aK (rows[i]);obtain⟨b,o,a1,c1,hab,hc1,hat⟩:=(Ha.out.below pb).row i hk2;have kv:p.length=n:=by rw[<-kw];exact mn.out _ (List.getElem_mem hk2)
       have lK:∀x∈p,Fit B x:=by rw[<-kw];exact tX.out _ (List.getElem_mem hk2)
       have xB:=Zn.out i hk2 hk3;have xI:=QG.out i hk3;have hpl:=Hlo.out.2 _ (List.getElem_mem hk3);rw[kw]at hc1 hat xB;rw[xB]at xI hpl;rw[kv]at hc1;have sV:=EX k cap i (i:Int) hab hlt rfl;rw[Nat.mul_one]at sV;obtain⟨Z,hZ⟩:=aK ((p.map aJ).map (tB low));rw[hZ]at xI;obtain⟨fW,ub,yP,Dd,HZ,vC,bj,eK⟩:=oK hat kv lK xI hZ hpl pb pv;clear hat kv lK xI hZ hpl pb pv hab kw xB hk2 hk3;obtain⟨wc,hwc⟩:∃wc,wc=wr:=⟨_,rfl⟩;subst hwc;have gM:=bj.out.size;go_wp2_with fail;go_loopw[12,43] (λs12 x wr=>∃(j:Nat) (v2:Value),j<=n/\x=ah (j:Int)/\v2=s12/\wr.ownsRow wc.heap.size 46 2 v2 j (zC (Z.take j))/\Bw wc wr) (λ_ x _=>n-(intOf x).toNat);case atStart=>exact⟨0,_,Nat.zero_le _,rfl,rfl,World.ownsRow_nil _ _ _ _,Below.refl _ _⟩
       case round=>
        clear hc1;obtain⟨j,v2,hj,rfl,rfl,ho,hb2⟩:=hrel;by_cases bC:j<n
        . have k1:j<p.length:=by rw[ub.out];exact bC
          obtain⟨sp,mp,ep,pW⟩:=pJ (p[j]);have jy:=yP.out _ (List.getElem_mem k1);rw[pW]at jy;obtain⟨X,hX⟩:=aK (aJ (sp,mp,ep));have hle:low<=dE X:=vC.out X (by rw[<-hX,<-pW];exact List.mem_map_of_mem (List.getElem_mem k1));have fY:Sm B X:=by rw[<-hX];exact jy.2
          have UY:=(fY.fit zo).1;have sS:(nt (dN X).natAbs).length<=268435456:=UY.1;have hXe: -268435456<=dE X/\dE X<=268435456:=UY.2;obtain⟨Y,hY⟩:=aK (tB low X);have hlb:=gT.out;have hl0:=Hlo.out.1;obtain⟨t,ht⟩:∃t:Int,dE X-low=t:=⟨_,rfl⟩;have hwr:IntKind.i64.wrap (dE X-low)=t:=by rw[IntKind.wrap_i64];omega
          have hsh:∀W,Cv 103 #[.agg #[aj (aC (dN X)),ai (nt (dN X).natAbs)],ah t] W (dO Y):=by intro W;have h:=YR (aC (dN X)) (nt (dN X).natAbs) (dE X-low).toNat W zo zo;rw[gK,show((dE X-low).toNat:Int)=t by omega]at h;rw[<-hY];exact h
          have cn:Hid (zC (Z.take (j+1))=zC (Z.take j)++[aj (aC Y),ai (nt Y.natAbs)]):=by
           show _=_
           rw[<-HZ.out,List.take_succ_eq_append_getElem (by simpa using k1),aAP];congr 1;simp only[List.getElem_map,pW,hX,hY];rfl
          obtain⟨b1,o1,sU,p0,p1,p2⟩:=(fW.out.below hb2).num j k1 pW;have afj:=kP n c1 j (j:Int) sU bC rfl;have Hp:Hid (bH wr b1 (o1+j*3) [aj sp,ai mp,ah ep]):=jH p0 p1 p2;obtain⟨wY,HX,Ho,dD,yR,Hwr,tQ⟩:=mE jy.1 hX ho hb2 hsh hwr ((HT.out.below bj.out).below hb2);have vh:=hb2.size;clear ho hb2 jy hX pW sU p0 p1 p2 hle fY UY sS hXe hY hlb hl0 ht hsh hwr;have Hb:=hbz wr;obtain⟨p0,p1,p2⟩:=Hp.out.w3;have P0:=p0;have P1:=p1;have P2:=p2;obtain⟨W4,ov,ag,Hc⟩:=cE wr 48 [aj sp,ai mp,ah ep];replace Hp:=kW Hp ag;obtain⟨p0,p1,p2⟩:=Hp.out.w3;obtain⟨c0,c1,c2⟩:=Hc.out.c3;replace Hb:=az Hb ag;have HT:Hid (aM W4):=tQ.out.below Hb.out;go_wp2_with fail;refine(sM sp mp ep X HX.out _ wY.out HT.out).mono ?_;rintro e w5 ⟨rfl,ag⟩;replace Hp:=kW Hp ag;obtain⟨Hc,c0,c1,c2⟩:=cm Hc ag;replace HT:=kT HT ag;obtain⟨p0,p1,p2⟩:=Hp.out.w3;replace Hb:=az Hb ag;have aDQ:=Hc.out.lt;obtain⟨W6,uz,ag,Hy⟩:=cE w5 48 [aj (aC (dN X)),ai (nt (dN X).natAbs),ah (dE X)];replace Hp:=kW Hp ag;obtain⟨Hc,c0,c1,c2⟩:=cm Hc ag;replace HT:=kT HT ag;obtain⟨p0,p1,p2⟩:=Hp.out.w3;obtain⟨y0,y1,y2⟩:=Hy.out.c3;replace Hb:=az Hb ag;have hwr:=Hwr.out;go_wp2_with fail;refine(yR.out _).mono ?_;rintro e w7 ⟨rfl,ag⟩;replace Hp:=kW Hp ag;obtain⟨Hc,c0,c1,c2⟩:=cm Hc ag;replace HT:=kT HT ag;obtain⟨Hy,y0,y1,y2⟩:=cm Hy ag;obtain⟨p0,p1,p2⟩:=Hp.out.w3;replace Hb:=az Hb ag;clear ag hwr;have aDS:=Hc.out.lt;have ahh:=Hy.out.lt;obtain⟨W8,UQ,ag,Hd⟩:=cE w7 46 [aj (aC Y),ai (nt Y.natAbs)];replace Hp:=kW Hp ag;replace Hc:=kB Hc ag;replace HT:=kT HT ag;obtain⟨Hy,y0,y1,y2⟩:=cm Hy ag;obtain⟨p0,p1,p2⟩:=Hp.out.w3;obtain⟨c0,c1,c2⟩:=Hc.out.c3;obtain⟨d0,d1⟩:=Hd.out.c2;replace Hb:=az Hb ag;have dR:=ownsRow_below Ho.out Hb.out;have ky:=Hb.out.size;have hnews:=gW Hd.out;go_wp2_with (at_builtin;refine wpList_append_own_at _ rfl _ _ 130 rfl wc.heap.size 46 i0 _ 2 24 Tryz.underlying130 Hi.out dF.out dv.out di.out rfl zd v2 j (zC (Z.take j)) rfl dR ⟨w7.heap.size,0,none⟩ 1 1 [aj (aC Y),ai (nt Y.natAbs)] rfl rfl hnews zy zx zo zo ?_;intro v' w9 fT mC _ _;obtain⟨g',sL,rfl⟩:=ownsRow_succ fT);go_roundw;case rel=>
           refine⟨j+1,_,by omega,by go_num,rfl,?_,?_⟩
           . rw[cn.out];exact fT
           . exact(aO dD.out Hb.out).grown mC zo (λj e=>dX dR j e)
          case measure=>exact bI
        . obtain rfl:j=n:=by omega
          have uB:Z.take j=Z:=List.take_of_length_le (by rw[<-HZ.out];simp[ub.out]);rw[uB]at ho;obtain⟨a2,cap2,rfl,_,_⟩:=dS ho;have fS:=ho.lt;obtain⟨vals,hvl,hov,tj,JO⟩:=eK.out;have jz:∀g,(Value.slice a2 j cap2).ownBlock=some g->∀m (h:m<vals.length),vals[m].ownBlock≠some g:=by intro g h1 m h2 h3;have:=(fS g h1).1;have:=((tj m h2).lt g h3).2;omega
          obtain⟨vw,ue,Bf,dQ,dD,SC,Ho⟩:=mE jz hvl tj hov hb2 JO ho;have Hb:=hbz wr;have vh:=hb2.size;clear jz hvl hov tj hb2 JO fS uB ho bC hj;obtain⟨W6,uz,ag,Hd⟩:=cE wr 130 [.slice a2 j cap2];have d0:=Hd.out.c1;replace Hb:=az Hb ag;have Ut:=aO dD.out Hb.out;have dR:=ownsRow_below dQ.out Ut;have ky:=Hb.out.size;have hnews:∀i u,([.slice a2 j cap2]:List Value)[i]?=some u->W6.cell? ((⟨wr.heap.size,0,none⟩:Addr).add i)=some u:=gW Hd.out;go_wp2_with (at_builtin;refine wpList_append_own_at _ rfl _ _ 142 rfl w.heap.size 130 j0 _ 1 24 Tryz.underlying142 Hj.out vG.out xm.out xo.out rfl zd v i vals rfl dR ⟨wr.heap.size,0,none⟩ 1 1 [.slice a2 j cap2] rfl rfl hnews zy zx zo zo ?_;intro v' w7 fg fM _ _;obtain⟨g',sL,rfl⟩:=ownsRow_succ fg);go_roundw;case rel=>
           refine⟨i+1,_,by omega,by go_num,rfl,?_,?_⟩
           . refine kg.push (w:=W6) ue.out dR (λm h=>ownsRow_below (Bf.out m h) Ut) SC.out ?_ vw.out fg fM;rw[Dd.out];exact tu (ownsRow_below Ho.out Hb.out) zo
           . exact(aO bj.out Ut).grown fM zo (λj e=>dX dR j e)
          case measure=>exact bI
     . obtain rfl:i=k:=by omega
       obtain⟨bj,eK⟩:=aZ pb pv;clear pb pv;have hnl:=RS.out;go_wp2;refine bodyPost_ret (v:=.tuple #[v,ah nl]) (by simp[results,Tryz.results112,go_sem]) rfl ⟨v,rfl,eK.out,bj.out⟩
end Go.Proofs.YtnjfebkelecgaaaGreatDoor
namespace Go.Proofs.YtnjfebkelecgaaaGreatDoor
open Go.RowKit
def lR {w:World}{base:Nat}{e:TypeId}{size n cap g:Nat}{xs:List Value}(h:w.ownsRow base e size (.slice (some ⟨g,0,none⟩) n cap) n xs)(j:Nat)(hj:j<xs.length):w.cell? ⟨g,j,none⟩=some xs[j]:=by
 rcases h.2 with⟨h1,_⟩ |⟨g',cap',cur,h1,_,hg,_,_,_,hx⟩
 . simp at h1
 . simp only[Value.slice.injEq,Option.some.injEq,Addr.mk.injEq,and_true,true_and]at h1;obtain⟨rfl,rfl⟩:=h1;have h2:cur.toList.take (n*size)=xs:=hx;have h3:cur.toList[j]?=some xs[j]:=by rw[<-List.getElem?_eq_getElem hj];simp only[<-h2];rw[List.getElem?_take];rw[<-h2,List.length_take]at hj;rw[if_pos (Nat.lt_of_lt_of_le hj (Nat.min_le_left _ _))]
   have h4:au w g e cur.toList:=by unfold au;simpa using hg
   rw[h4.cell];exact h3
def kX {w:World}{base:Nat}{e:TypeId}{size n cap g:Nat}{xs:List Value}(h:w.ownsRow base e size (.slice (some ⟨g,0,none⟩) n cap) n xs)(j:Nat)(u:Value):(w.setCell ⟨g,j,none⟩ u).ownsRow base e size (.slice (some ⟨g,0,none⟩) n cap) n (xs.set j u):=by
 refine⟨by rw[List.length_set];exact h.1,?_⟩;rcases h.2 with⟨h1,_⟩ |⟨g',cap',cur,h1,hb,hg,h4,h5,h6,hx⟩
 . simp at h1
 . simp only[Value.slice.injEq,Option.some.injEq,Addr.mk.injEq,and_true,true_and]at h1;obtain⟨rfl,rfl⟩:=h1;refine .inr ⟨g,cap,cur.setIfInBounds j u,rfl,hb,?_,h4,h5,by simpa using h6,?_⟩
   . simp[World.setCell,Array.getElem?_modify,hg]
   . rw[<-hx];simp[List.take_set]
def aAR (zs:List Int):(zC zs).length=zs.length*2:=kj iC 2 (λ_=>rfl) zs
def aAQ (zs:List Int)(j:Nat)(hj:j<zs.length):(zC zs)[j*2]?=some (aj (aC zs[j]))/\(zC zs)[j*2+1]?=some (ai (nt zs[j].natAbs)):=by
 induction zs generalizing j with
 |nil=>simp at hj
 | cons z zs ih=>
   have e:zC (z::zs)=aj (aC z)::ai (nt z.natAbs)::zC zs:=rfl;rw[e];cases j with
   |zero=>exact⟨rfl,rfl⟩
   |succ j=>have:=ih j (by simpa using hj);rw[show(j+1) *2=j*2+1+1 by omega];simpa using this
def aAS (zs:List Int)(j:Nat)(hj:j<zs.length)(y:Int):((zC zs).set (j*2) (aj (aC y))).set (j*2+1) (ai (nt y.natAbs))=zC (zs.set j y):=by
 induction zs generalizing j with
 |nil=>simp at hj
 | cons z zs ih=>
   have e:zC (z::zs)=aj (aC z)::ai (nt z.natAbs)::zC zs:=rfl;rw[e];cases j with
   |zero=>rfl
   |succ j=>have:=ih j (by simpa using hj);rw[show(j+1) *2=j*2+1+1 by omega];simp only[List.set_cons_succ];rw[this];rfl
def kg.num {w:World}{base n L:Nat}{R:List (List Int)}{v:Value}(h:kg w base n R L v)(i j:Nat)(hi:i<L)(hj:j<n)(hR:R.length=L)(hr:(R.getD i []).length=n):
 ∃go cap g c,v=.slice (some ⟨go,0,none⟩) L cap/\base<=go/\base<=g/\g≠go/\w.cell? ⟨go,i,none⟩=some (.slice (some ⟨g,0,none⟩) n c)/\
  w.cell? ⟨g,j*2,none⟩=some (aj (aC ((R.getD i []).getD j 0)))/\w.cell? ⟨g,j*2+1,none⟩=some (ai (nt ((R.getD i []).getD j 0).natAbs))/\
  ∀y:Int,kg ((w.setCell ⟨g,j*2,none⟩ (aj (aC y))).setCell ⟨g,j*2+1,none⟩ (ai (nt y.natAbs))) base n (R.set i ((R.getD i []).set j y)) L v:=by
 obtain⟨vals,hl,ho,hv,hd⟩:=h;have hi2:i<vals.length:=by omega
 have hrow:=hv i hi2;have hxl:(zC (R.getD i [])).length=n*2:=by rw[aAR,hr]
 obtain⟨a0,cap,rfl,_,_⟩:=dS ho;obtain⟨a1,c,e1,_,hab⟩:=dS hrow;rw[e1]at hrow;rcases ho.2 with⟨h1,_⟩ |⟨go,cap',cur,h1,jT,hgo,_⟩
 . simp at h1;omega
 simp only[Value.slice.injEq,true_and]at h1;obtain⟨rfl,rfl⟩:=h1;rcases hrow.2 with⟨h1,_⟩ |⟨g,c',cur',h1,hbg,hgg,_⟩
 . simp at h1;omega
 simp only[Value.slice.injEq,true_and]at h1;obtain⟨rfl,rfl⟩:=h1;have hne:g≠go:=by rintro rfl;rw[hgo]at hgg;simp at hgg
 have hat:=aAQ (R.getD i []) j zo;have hg0:(R.getD i []).getD j 0=(R.getD i [])[j]'zo:=by rw[List.getD_eq_getElem?_getD,List.getElem?_eq_getElem zo];rfl
 have hc0:=lR hrow (j*2) zo;have hc1:=lR hrow (j*2+1) zo;rw[<-List.getElem?_eq_getElem]at hc0 hc1;rw[hat.1]at hc0;rw[hat.2]at hc1;refine⟨go,cap,g,c,rfl,jT,hbg,hne,?_,by rw[hg0];exact hc0,by rw[hg0];exact hc1,λy=>?_⟩
 . rw[lR ho i zo,e1]
 . refine⟨vals,hl,?_,λm hm=>?_,hd⟩
   . exact ownsRow_setCell_other (ownsRow_setCell_other ho (by simpa[Value.ownBlock]using hne.symm) _) (by simpa[Value.ownBlock]using hne.symm) _
   . by_cases xS:m=i
     . subst xS;have hs:(R.set m ((R.getD m []).set j y)).getD m []=(R.getD m []).set j y:=by rw[List.getD_eq_getElem?_getD,List.getElem?_set_self zo];rfl
       rw[hs,e1,<-aAS _ _ zo];exact kX (kX hrow _ _) _ _
     . have hs:(R.set i ((R.getD i []).set j y)).getD m []=R.getD m []:=by rw[List.getD_eq_getElem?_getD,List.getElem?_set_ne (λe=>xS e.symm),<-List.getD_eq_getElem?_getD]
       rw[hs];have hno:vals[m].ownBlock≠some g:=λe=>xS (hd m i hm hi2 g e (by rw[e1];rfl));exact ownsRow_setCell_other (ownsRow_setCell_other (hv m hm) hno _) hno _
def swp (i m k:Nat):Nat:=if k=i then m else if k=m then i else k
def azm {i m a b:Nat}(h:swp i m a=swp i m b):a=b:=by
 unfold swp at h;repeat' split at h
 all_goals omega
def Qf {i m k L:Nat}(hi:i<L)(hm:m<L)(hk:k<L):swp i m k<L:=by
 unfold swp;repeat' split
 all_goals omega
def Yg {α:Type}(l:List α)(d:α)(i m:Nat)(hi:i<l.length)(hm:m<l.length)(k:Nat)(hk:k<l.length):((l.set i (l.getD m d)).set m (l.getD i d)).getD k d=l.getD (swp i m k) d:=by
 unfold swp;by_cases h1:k=m
 . subst h1;rw[List.getD_eq_getElem?_getD,List.getElem?_set_self (by simpa using hk)];by_cases h2:k=i
   . subst h2;simp
   . simp[h2]
 . rw[List.getD_eq_getElem?_getD,List.getElem?_set_ne (λe=>h1 e.symm)];by_cases h2:k=i
   . subst h2;rw[List.getElem?_set_self (by simpa using hk)];simp
   . rw[List.getElem?_set_ne (λe=>h2 e.symm)];simp[h1,h2]
def kg.swap {w:World}{base n L go cap:Nat}{R:List (List Int)}(h:kg w base n R L (.slice (some ⟨go,0,none⟩) L cap))(i m:Nat)(hi:i<L)(hm:m<L)(hR:R.length=L):
 ∃x y,w.cell? ⟨go,i,none⟩=some x/\w.cell? ⟨go,m,none⟩=some y/\kg ((w.setCell ⟨go,i,none⟩ y).setCell ⟨go,m,none⟩ x) base n ((R.set i (R.getD m [])).set m (R.getD i [])) L (.slice (some ⟨go,0,none⟩) L cap):=by
 obtain⟨vals,hl,ho,hv,hd⟩:=h;have hi2:i<vals.length:=by omega
 have hm2:m<vals.length:=by omega
 have hgo:∀k (hk:k<vals.length),vals[k].ownBlock≠some go\/vals[k].ownBlock=none:=by
  intro k hk;rcases KP (hv k hk) ho zd with e|e
  . exact .inr e
  . exact .inl e
 have hel:∀k (hk:k<vals.length),((vals.set i vals[m]).set m vals[i])[k]'(by simpa using hk)=vals[swp i m k]'(Qf hi2 hm2 hk):=by intro k hk;have:=Yg vals (aj false) i m hi2 hm2 k hk;have hs:=Qf hi2 hm2 hk;simpa[List.getD_eq_getElem?_getD,List.getElem?_eq_getElem,hi2,hm2,hk,hs]using this
 refine⟨vals[i],vals[m],lR ho i zo,lR ho m zo,_,by simp[hl],kX (kX ho i _) m _,λk hk=>?_,λa b ha hb g e1 e2=>?_⟩
 . have hk2:k<vals.length:=by simpa using hk
   have hs:=Qf hi2 hm2 hk2;rw[hel k hk2,Yg R [] i m zo zo k zo];have hno:vals[swp i m k].ownBlock≠some go:=by
    rcases hgo _ hs with e|e
    . exact e
    . rw[e];simp
   exact ownsRow_setCell_other (ownsRow_setCell_other (hv _ hs) hno _) hno _
 . have ha2:a<vals.length:=by simpa using ha
   have hb2:b<vals.length:=by simpa using hb
   rw[hel a ha2]at e1;rw[hel b hb2]at e2;exact azm (hd _ _ _ _ g e1 e2)
end Go.Proofs.YtnjfebkelecgaaaGreatDoor
namespace Go.Proofs.YtnjfebkelecgaaaGreatDoor
end Go.Proofs.YtnjfebkelecgaaaGreatDoor
namespace Go.Proofs.YtnjfebkelecgaaaGreatDoor
open Go.RowKit
attribute [local go_sem ↓] Go.wp_at_zero Go.wp_at_succ
def Bv (w:World)(x:Value)(n v:Nat):Prop:=v<2^n/\((x=.slice none 0 0/\n=0)\/∃b o cap,x=.slice (some ⟨b,o,none⟩) n cap/\n<=cap/\∀j,j<n->w.cell? ⟨b,o+j,none⟩=some (.int .u8 (bd v j:Int)))
def Bv.below {w w':World}{x:Value}{n v:Nat}(h:Bv w x n v)(hb:Bw w w'):Bv w' x n v:=by
 refine⟨h.1,?_⟩;rcases h.2 with h|⟨b,o,cap,e,h1,hc⟩
 . exact .inl h
 . exact .inr ⟨b,o,cap,e,h1,λj hj=>cell_later hb (hc j hj)⟩
def Bv.aFT {w:World}{base:Nat}{e:TypeId}{x:Value}{n v:Nat}(h:w.ownsRow base e 1 x n (dw n (bd v)))(hx:v<2^n):Bv w x n v:=by
 refine⟨hx,?_⟩;rcases h.2 with⟨rfl,rfl⟩ |⟨g,cap,cur,rfl,hb,hg,h2,h3,h4,h5⟩
 . exact .inl ⟨rfl,rfl⟩
 . refine .inr ⟨g,0,cap,rfl,h2,λj hj=>?_⟩;have:=h.cells (g:=g) rfl j _ (mL n (bd v) j hj);have e2:((⟨g,0,none⟩:Addr).add j)=⟨g,j,none⟩:=by simp[Addr.add];omega
   rw[Nat.zero_add,<-e2];exact this
def Bv.aFK {w:World}{b:Nat}{t:TypeId}{n v:Nat}(h:au w b t (dw n (bd v)))(hv:v<2^n):Bv w (.slice (some ⟨b,0,none⟩) n n) n v:=
 ⟨hv,.inr ⟨b,0,n,rfl,Nat.le_refl _,λj hj=>by rw[Nat.zero_add,h.cell,mL _ _ _ hj]⟩⟩
def ah9 (b o n cap v:Nat)(w:World)(hm:n<=1099511627776)(hcap:n<=cap)(hc:∀j,j<n->w.cell? ⟨b,o+j,none⟩=some (.int .u8 (bd v j:Int)))(hv:v<2^n):
 Cl 186 #[.slice (some ⟨b,o,none⟩) n cap] w λe w'=>e=.returned (.slice (some ⟨b,o,none⟩) (bT v) cap)/\w=w':=by
 have Hc:=ar hc;clear hc;have Hv:=ar hv;clear hv;go_enter Tryz.func186,Tryz.ntmps186;go_wp2_with fail;go_loop [3] (λx=>∃k:Nat,k<=n/\v<2^k/\x=ah (k:Int)) (λx=>(intOf x).toNat)
 case atStart=>exact⟨n,Nat.le_refl _,Hv.out,rfl⟩
 case round=>
  obtain⟨k,hk,hvk,rfl⟩:=hrel;have qN:=ar hvk;clear hvk;by_cases h0:0<k
  . have hcell:w.cell? ⟨b,o+(k-1),none⟩=some (.int .u8 (bd v (k-1):Int)):=Hc.out _ zo;have bD:=tq n cap (k-1) ((k:Int)-1) (rfl:(some ⟨b,o,none⟩:Option Addr)=_) zo zo;rw[Nat.mul_one]at bD;by_cases hd:bd v (k-1)=0
    . have hd':((bd v (k-1):Int)==0)=true:=by simp[hd]
      have Hd:=ar hd;clear hd;go_wp2;refine⟨⟨k-1,by omega,?_,by go_num⟩,by simp[intOf];omega⟩;refine apy ?_ Hd.out;rw[show k-1+1=k by omega];exact qN.out
    . have hd':((bd v (k-1):Int)==0)=false:=by simp[hd]
      have Hd:=ar hd;clear hd;go_wp2;go_ret;have e:bT v=k:=by have:=apj (v:=v) (k:=k-1) (by rw[show k-1+1=k by omega];exact qN.out) (apx Hd.out);omega
      rw[e];exact⟨rfl,rfl⟩
  . obtain rfl:k=0:=by omega
    go_wp2;go_ret;have e:bT v=0:=by have:=qN.out;simp at this;subst this;rfl
    rw[e];exact⟨rfl,rfl⟩
def aia (w:World):
 Cl 186 #[.slice none 0 0] w λe w'=>e=.returned (.slice none 0 0)/\w=w':=by
 go_enter Tryz.func186,Tryz.ntmps186;go_wp2_with fail;refine wp_loop_rounds 1 ?_;rw[rounds_succ];go_wp2;go_ret;exact⟨rfl,rfl⟩
def GK (x:Value)(lo:Nat):Prop:=∀b o n c,x=.slice (some ⟨b,o,none⟩) n c->lo<=b
def XV (x:Value)(n v:Nat)(w:World)(hm:n<=1099511627776)(hx:Bv w x n v):
 Cl 186 #[x] w λe w'=>(∃y,e=.returned y/\Bv w y (bT v) v/\∀lo,GK x lo->GK y lo)/\w=w':=by
 have hl:=iG hx.1;rcases hx.2 with⟨rfl,rfl⟩ |⟨b,o,cap,rfl,h1,hc⟩
 . refine(aia w).mono ?_;rintro e w' ⟨rfl,rfl⟩;exact⟨⟨_,rfl,⟨sJ v,.inl ⟨rfl,by omega⟩⟩,λ_ h=>h⟩,rfl⟩
 . refine(ah9 b o n cap v w hm h1 hc hx.1).mono ?_;rintro e w' ⟨rfl,rfl⟩;exact⟨⟨_,rfl,⟨sJ v,.inr ⟨b,o,cap,rfl,by omega,λj hj=>hc j zo⟩⟩,λlo h b' o' n' c' e=>by cases e;exact h _ _ _ _ rfl⟩,rfl⟩
def ayA (b o n cap v:Nat)(w:World)(hm:n<=1099511627776)(hcap:n<=cap)(hc:∀j,j<n->w.cell? ⟨b,o+j,none⟩=some (.int .u8 (bd v j:Int)))(hv:v<2^n):
 Cv 160 #[.slice (some ⟨b,o,none⟩) n cap] w (ai (nt v)):=by
 have hle:=iG hv;have hcut:=ah9 b o n cap v w hm hcap hc hv;have hvl:=sJ v;have wV:Hid ((List.range ((bT v+7)/8)).map (λj=>UInt8.ofNat (v/256^((bT v+7)/8-1-j)%256))=nt v):=Xq _ _ (GU v).1 (GU v).2;generalize hL:bT v=L at*;obtain⟨nb,hnb⟩:=aK ((L+7)/8);have hmk:=uT (((L:Int)+7)/8) nb zo zo;have VK:((L:Int)+7)/8=(nb:Int):=by omega
 rw[VK]at hmk;rw[hnb]at wV;obtain⟨alb,Hc,Hv,ue,HL⟩:=fU hcut hc hv hvl hL;clear hcut hc hv hvl hL;go_enter Tryz.func160,Tryz.ntmps160;go_wp2_with fail;refine alb.out.mono ?_;rintro e w' ⟨rfl,rfl⟩;go_wp2_with fail;go_loopw[4] (λi wr=>∃k:Nat,k<=L/\i=ah (k:Int)/\au wr w.heap.size 5 (dw nb (λj=>v%2^k/256^(nb-1-j)%256))/\Bw w wr) (λi _=>L-(intOf i).toNat);case atStart=>
  refine⟨0,Nat.zero_le _,rfl,?_,zl⟩;have e:dw nb (λj=>v%2^0/256^(nb-1-j)%256)=dw nb λ_=>0:=ql λj hj=>by simp[Nat.mod_one]
  rw[e];exact au.new _ _ _
 case round=>
  obtain⟨k,hk,rfl,hB,hb⟩:=hrel;by_cases hlt:k<L
  . have hq:k/8<nb:=by omega
    obtain⟨Z,hZ⟩:=aK (bd v k);have hZ1:Z<=1:=by rw[<-hZ];exact vH v k
    have mB:wr.cell? ⟨b,o+k,none⟩=some (.int .u8 (Z:Int)):=by rw[<-hZ];exact cell_later hb (Hc.out _ zo)
    obtain⟨A,hA⟩:=aK (v%2^k/256^(k/8)%256);have hcell:wr.cell? ⟨w.heap.size,nb-1-k/8,none⟩=some (.int .u8 (A:Int)):=by rw[hB.cell,mL _ _ _ zo,show nb-1-(nb-1-k/8)=k/8 by omega,hA]
    have hfree:wr.frozen? ⟨w.heap.size,nb-1-k/8,none⟩=false:=hB.free _;obtain⟨hb1,hb2⟩:=apD v k;rw[hA,hZ]at hb1 hb2;have bX:=hB.set (nb-1-k/8) (.int .u8 ((A+Z*2^(k%8):Nat):Int));have hb3:=hb.setCell (p:=⟨w.heap.size,nb-1-k/8,none⟩) (Nat.le_refl _) (.int .u8 ((A+Z*2^(k%8):Nat):Int))
    rw[CV,ql (g:=λj=>v%2^(k+1)/256^(nb-1-j)%256) λj hj=>by
     by_cases vP:j=nb-1-k/8
     . subst vP;rw[if_pos rfl,show nb-1-(nb-1-k/8)=k/8 by omega,hb1]
     . rw[if_neg vP,apE v k _ zo]]at bX
    obtain⟨fu,Hb⟩:=aZ bX hb3;clear hB hb bX hb3 hb1 hA hZ;have He:Hid ((((A:Int)+(Z:Int) *2^(k%8))%256)=((A+Z*2^(k%8):Nat):Int)):=by
     show _=_
     have:((Z:Int) *2^(k%8))=((Z*2^(k%8):Nat):Int):=by simp
     rw[this];omega
    clear hb2;go_wp2;go_region
    go_wp2;go_roundw;case rel=>rw[He.out];exact⟨k+1,by omega,by go_num,fu.out,Hb.out.drew⟩
    case measure=>exact bI
  . obtain rfl:k=L:=by omega
    rw[Nat.mod_eq_of_lt ue.out]at hB;have rS:=vp hB nb;rw[wV.out]at rS;have Hb:=ar hb;clear hb hB;go_wp2;go_ret;exact⟨rfl,Hb.out⟩
def ayB (w:World):
 Cv 160 #[.slice none 0 0] w (.string (bs [])):=by
 have hmk:=uT 0 0 rfl zo;have rS:=vp (au.new w 5 (dw 0 λ_=>0)) 0;go_enter Tryz.func160,Tryz.ntmps160;go_wp2_with fail;refine(aia w).mono ?_;rintro e w' ⟨rfl,rfl⟩;go_wp2_with fail;refine wp_loop_rounds 1 ?_;rw[rounds_succ];go_wp2;go_ret;exact⟨rfl,zl⟩
def yq (x:Value)(n v:Nat)(w:World)(hm:n<=1099511627776)(hx:Bv w x n v):
 Cv 160 #[x] w (ai (nt v)):=by
 rcases hx.2 with⟨rfl,rfl⟩ |⟨b,o,cap,rfl,h1,hc⟩
 . have h0:=hx.1;obtain rfl:v=0:=by simpa using h0
   exact ayB w
 . exact ayA b o n cap v w hm h1 hc hx.1
def ajf (n:Nat)(f:Nat->Nat):dw (n+1) f=dw n f++[.int .u8 (f n:Int)]:=by unfold dw;rw[List.range_succ,List.map_append];rfl
def ax8 (N:Nat)(w:World)(hN:N<WW):
 Cv 125 #[.int .u64 (N:Int)] w (ai (nt N)):=by
 obtain⟨i0,hi,hz0,hz1,hz2⟩:=info_parts Tryz.aFR;have hNb:bT N<=64:=iG (by rw[mV]at hN;exact hN);have hW:=kF;go_enter Tryz.func125,Tryz.ntmps125;go_wp2_with fail;go_loopw[0,3] (λu v wr=>∃k:Nat,k<=bT N/\u=.int .u64 ((N/2^k:Nat):Int)/\wr.ownsRow w.heap.size 5 1 v k (dw k (bd N))/\Bw w wr) (λu _ _=>(intOf u).toNat);case atStart=>exact⟨0,Nat.zero_le _,by simp,World.ownsRow_nil _ _ _ _,Below.refl _ _⟩
 case round=>
  obtain⟨k,hk,rfl,hown,hb⟩:=hrel;obtain⟨M,hM⟩:=aK (N/2^k);have Em:M<18446744073709551616:=by have:=Nat.div_le_self N (2^k);omega
  have HM:=ar hM;rw[hM];have uv:N/2^(k+1)=M/2:=by rw[Nat.pow_succ,<-Nat.div_div_eq_div_mul,hM]
  have nk:bd N k=M%2:=by unfold bd;rw[hM]
  obtain⟨AK,mg⟩:=aZ uv nk;clear hM uv nk hW hN;by_cases h0:0<M
  . have h01:(0:Int)<(M:Int):=by omega
    have hkl:k<bT N:=by
     rcases Nat.lt_or_ge k (bT N)with h|h
     . exact h
     . have h1:N<2^k:=Nat.lt_of_lt_of_le (sJ N) (Nat.pow_le_pow_right zd h);have:=HM.out;rw[Nat.div_eq_of_lt h1]at this;omega
    have hs0:=hb.size;have rM:=ar hown;clear hown;go_wp2_with (first| (at_builtin;refine wpList_append_own _ rfl _ _ 84 rfl w.heap.size 5 i0 (.int .u8 0) 1 1 Tryz.underlying84 hi hz0 hz1 hz2 rfl zd _ _ _ rfl (rM.out.alloc _) ⟨wr.heap.size,0,none⟩ 1 1 [.int .u8 ((M:Int)%2)] rfl rfl (cell_one_new _ _ _) zy zx zo zi ?_;intro v' w1 ho hg _;obtain⟨Ho,Hg⟩:=aZ ho hg;clear ho hg));go_roundw;case rel=>
     refine⟨k+1,by omega,?_,?_,?_⟩
     . rw[AK.out];go_num
     . rw[ajf,mg.out];have e:((M%2:Nat):Int)=(M:Int)%2:=by omega
       rw[e];exact Ho.out
     . exact(hb.alloc hs0 _).grown Hg.out zi (λj e=>dX rM.out j e)
    case measure=>exact bI
  . obtain rfl:M=0:=by omega
    have hkN:N<2^k:=by have:=HM.out;exact(Nat.div_eq_zero_iff_lt (Nat.pow_pos zd)).1 this
    obtain⟨QU,Hb⟩:=aZ (Bv.aFT hown hkN) hb;clear hown hkN hb;go_wp2_with fail;refine(yq u3 k N wr zo QU.out).mono ?_;rintro e w2 ⟨rfl,hb2⟩;have dD:=ar hb2;clear hb2;go_wp2;go_ret;exact⟨rfl,aO Hb.out dD.out⟩
def Tv (a:Nat)(ha:a<256):bits .and .u8 (a:Int) 1=((a%2:Nat):Int):=by
 have h1:(BitVec.ofInt 8 (a:Int)).toNat=a:=by rw[BitVec.ofInt_natCast,BitVec.toNat_ofNat];exact Nat.mod_eq_of_lt zo
 show IntKind.u8.wrap ((BitVec.ofInt 8 (a:Int)&&&BitVec.ofInt 8 1).toNat:Int)=_
 rw[BitVec.toNat_and,h1,show(BitVec.ofInt 8 1).toNat=1 from rfl,Nat.and_one_is_mod,IntKind.wrap_u8];omega
def si (l:List UInt8)(w:World)(hl:l.length<=68719476736):
 Cl 161 #[ai l] w λe w'=>(∃y,e=.returned y/\Bv w' y (bT (nv l)) (nv l))/\Bw w w':=by
 obtain⟨i0,hi,hz0,hz1,hz2⟩:=info_parts Tryz.aFR;have hsz:(bs l).size=l.length:=iH l;go_enter Tryz.func161,Tryz.ntmps161;go_wp2_with fail;go_loopw[3,4,5] (λv i _ wr=>∃m:Nat,m<=l.length/\i=ah ((l.length:Int)-1-(m:Int))/\wr.ownsRow w.heap.size 5 1 v (8*m) (dw (8*m) (bd (nv l)))/\Bw w wr) (λ_ i _ _=>(intOf i+1).toNat);case atStart=>exact⟨0,Nat.zero_le _,by go_num,World.ownsRow_nil _ _ _ _,Below.refl _ _⟩
 case round=>
  obtain⟨m,hm,rfl,hown,hb⟩:=hrel;obtain⟨rM,Hb⟩:=aZ hown hb;clear hown hb;by_cases hlt:m<l.length
  . have hge:(m:Int)<=(l.length:Int)-1:=by omega
    have iV:=uO l ((l.length:Int)-1-(m:Int)) (l.length-1-m) zo zo;have ak0:Hid (∀k,k<8->l[l.length-1-m].toNat/2^k%2=bd (nv l) (8*m+k)):=λk hk=>awg l m k hlt hk;have hC:=(l[l.length-1-m]'zo).toNat_lt;generalize hCe:l[l.length-1-m].toNat=C at*;clear hCe;go_wp2_with fail;go_loopw[3,5] (λv j wr=>∃k:Nat,k<=8/\j=ah (k:Int)/\wr.ownsRow w.heap.size 5 1 v (8*m+k) (dw (8*m+k) (bd (nv l)))/\Bw w wr) (λ_ j _=>8-(intOf j).toNat);case atStart=>exact⟨0,Nat.zero_le _,rfl,rM.out,Hb.out⟩
    case round=>
     clear rM Hb;obtain⟨k,hk,rfl,hown,hb⟩:=hrel;obtain⟨rM,Hb⟩:=aZ hown hb;have hs0:=hb.size;clear hown hb;by_cases Ca:k<8
     . obtain ⟨Z,hZ⟩:=aK (C/2^k%2);have hbk:=ak0.out k Ca;rw[hZ]at hbk;have tV:=ar hbk;clear hbk;have hand:bits .and .u8 ((C:Int)/2^k) 1=(Z:Int):=by
        have e:(C:Int)/2^k=((C/2^k:Nat):Int):=by simp
        have:=Nat.div_le_self C (2^k);rw[e,Tv _ zo,hZ]
       clear hZ;go_wp2_with (first| (at_builtin;refine wpList_append_own _ rfl _ _ 84 rfl w.heap.size 5 i0 (.int .u8 0) 1 1 Tryz.underlying84 hi hz0 hz1 hz2 rfl zd _ _ _ rfl (rM.out.alloc _) ⟨wr.heap.size,0,none⟩ 1 1 [.int .u8 (Z:Int)] rfl rfl (cell_one_new _ _ _) zy zx zo zi ?_;intro v' w1 ho hg _;obtain⟨Ho,Hg⟩:=aZ ho hg;clear ho hg));go_roundw;case rel=>
        refine⟨k+1,by omega,?_,?_,?_⟩
        . go_num
        . rw[<-Nat.add_assoc,ajf,<-tV.out];exact Ho.out
        . exact(Hb.out.alloc hs0 _).grown Hg.out zi (λj e=>dX rM.out j e)
       case measure=>exact bI
     . obtain rfl:k=8:=by omega
       go_wp2;go_roundw;case rel=>exact⟨m+1,by omega,by go_num,rM.out,Hb.out⟩
       case measure=>exact bI
  . obtain rfl:m=l.length:=by omega
    have QU:=ar (Bv.aFT rM.out (rE l));clear hlt;go_wp2_with fail;refine(XV u3 (8*l.length) (nv l) wr zo QU.out).mono ?_;rintro e w2 ⟨⟨y,rfl,hy,_⟩,rfl⟩;have Hy:=ar hy;clear hy;go_wp2;go_ret;exact⟨⟨_,rfl,Hy.out⟩,Hb.out⟩
def Fv (x:Value)(n v i:Nat)(w:World)(hx:Bv w x n v)(hi:i<=1099511627776)(hn:n<=1099511627776):
 Cl 202 #[x,ah (i:Int)] w λe w'=>e=.returned (.int .u8 (bd v i:Int))/\w=w':=by
 obtain⟨hv,h⟩:=hx;by_cases hlt:i<n
 . rcases h with⟨rfl,h0⟩ |⟨b,o,cap,rfl,h1,hc⟩
   . omega
   . have hcell:=hc i hlt;have bD:=tq n cap i (i:Int) (rfl:(some ⟨b,o,none⟩:Option Addr)=_) hlt rfl;rw[Nat.mul_one]at bD;clear hc hv;go_enter Tryz.func202,Tryz.ntmps202;go_wp2;go_ret;exact⟨rfl,rfl⟩
 . have h0:bd v i=0:=apb hv zo;have H0:=ar h0;clear h0 hv;rcases h with⟨rfl,h0⟩ |⟨b,o,cap,rfl,h1,hc⟩
   . subst h0;go_enter Tryz.func202,Tryz.ntmps202;go_wp2;go_ret;exact⟨by rw[H0.out];rfl,rfl⟩
   . clear hc;go_enter Tryz.func202,Tryz.ntmps202;go_wp2;go_ret;exact⟨by rw[H0.out];rfl,rfl⟩
def Bv.len {w:World}{x:Value}{n v:Nat}(h:Bv w x n v):∃a cap,x=.slice a n cap:=by
 rcases h.2 with⟨rfl,rfl⟩ |⟨b,o,cap,rfl,_⟩
 . exact⟨_,_,rfl⟩
 . exact⟨_,_,rfl⟩
def ah8 (x y:Value)(n m v u:Nat)(w:World)(hx:Bv w x n v)(hy:Bv w y m u)(hn:n<=1099511627776)(hm:m<=1099511627776):
 Cl 187 #[x,y] w λe w'=>e=.returned (ah (dU v u))/\w=w':=by
 obtain⟨a,cap,rC⟩:=hx.len;obtain⟨a',cap',JU⟩:=hy.len;have rR:=λi (hi:i<=1099511627776)=>Fv x n v i w hx hi hn;have hby:=λi (hi:i<=1099511627776)=>Fv y m u i w hy hi hm;have hv:=hx.1;have hu:=hy.1;subst rC;subst JU;obtain⟨FW,qG,Hv,Hu⟩:=ej rR hby hv hu;clear rR hby hv hu hx hy;obtain⟨M,hM⟩:=aK (max n m);have hMI:max (n:Int) (m:Int)=(M:Int):=by omega
 have cn:Hid (v/2^M=u/2^M):=by
  show _=_
  rw[Nat.div_eq_of_lt (Nat.lt_of_lt_of_le Hv.out (Nat.pow_le_pow_right zd zo)),Nat.div_eq_of_lt (Nat.lt_of_lt_of_le Hu.out (Nat.pow_le_pow_right zd zo))]
 have Em:M<=1099511627776:=by omega
 clear hM;go_enter Tryz.func187,Tryz.ntmps187;go_wp2_with fail;go_loop [5] (λi=>∃k:Nat,k<=M/\v/2^k=u/2^k/\i=ah ((k:Int)-1)) (λi=>(intOf i+1).toNat)
 case atStart=>exact⟨M,Nat.le_refl _,cn.out,rfl⟩
 case round=>
  obtain⟨k,hk,hvk,rfl⟩:=hrel;have qN:=ar hvk;clear hvk;by_cases h0:0<k
  . obtain⟨j,rfl⟩:∃j,k=j+1:=⟨k-1,by omega⟩;have rR:=FW.out j zo;have hby:=qG.out j zo;obtain⟨Dq,Hgt,LO⟩:=cX (λh=>abX (v:=v) (u:=u) qN.out h) (λh=>abX (v:=u) (u:=v) qN.out.symm h) (λh=>apa (v:=v) (u:=u) qN.out h);have hp1:=vH v j;have hq1:=vH u j;generalize bd v j=p at*;generalize bd u j=q at*;obtain⟨H1,H2⟩:=aZ rR hby;clear rR hby;have hj:((j+1:Nat):Int)-1=(j:Int):=by omega
    rw[hj];clear hj h0;go_wp2_with fail;refine H1.out.mono ?_;rintro e w' ⟨rfl,rfl⟩;go_wp2_with fail;refine H2.out.mono ?_;rintro e w' ⟨rfl,rfl⟩;by_cases EM:p<q
    . have atn:(p:Int)<(q:Int):=by omega
      go_wp2;go_ret;have:=Dq.out EM;exact⟨by unfold dU;rw[if_pos this];rfl,rfl⟩
    . have atn:¬(p:Int)<(q:Int):=by omega
      go_wp2_with fail;refine H1.out.mono ?_;rintro e w' ⟨rfl,rfl⟩;go_wp2_with fail;refine H2.out.mono ?_;rintro e w' ⟨rfl,rfl⟩;by_cases hqp:q<p
      . have atq:(q:Int)<(p:Int):=by omega
        go_wp2;go_ret;have:=Hgt.out hqp;exact⟨by unfold dU;rw[if_neg zo,if_pos this];rfl,rfl⟩
      . have atq:¬(q:Int)<(p:Int):=by omega
        go_wp2;refine⟨⟨j,by omega,LO.out zo,by go_num⟩,by simp[intOf]⟩
  . obtain rfl:k=0:=by omega
    have he:v=u:=by simpa using qN.out
    go_wp2;go_ret;exact⟨by unfold dU;rw[if_neg zo,if_neg zo];rfl,rfl⟩
def aic (x y:Value)(n m v u:Nat)(w:World)(hx:Bv w x n v)(hy:Bv w y m u)(hn:n<=1099511627776)(hm:m<=1099511627776)(JN:u<=v):
 Cl 188 #[x,y] w λe w'=>(∃z,e=.returned z/\Bv w' z n (v-u)/\GK z w.heap.size)/\Bw w w':=by
 obtain⟨a,cap,rC⟩:=hx.len;obtain⟨a',cap',JU⟩:=hy.len;have rR:=λW (hW:Bw w W) i (hi:i<=1099511627776)=>Fv x n v i W (hx.below hW) hi hn;have hby:=λW (hW:Bw w W) i (hi:i<=1099511627776)=>Fv y m u i W (hy.below hW) hi hm;have xh:Hid (v-u<2^n):=by show _<_;have:=hx.1;omega
 subst rC;subst JU;obtain⟨FW,qG,GF⟩:=cX rR hby JN;clear rR hby hx hy JN;have hmk:=uT (n:Int) n rfl zo;go_enter Tryz.func188,Tryz.ntmps188;go_wp2_with fail;go_loopw[6,7,8] (λb i _ wr=>∃k:Nat,k<=n/\i=ah (k:Int)/\b=.int .u8 (bb v u k:Int)/\au wr w.heap.size 5 (dw n (λj=>if j<k then bd (v-u) j else 0))/\Bw w wr) (λ_ i _ _=>n-(intOf i).toNat);case atStart=>
  refine⟨0,Nat.zero_le _,rfl,by rw[ao8];rfl,?_,zl⟩;have e:dw n (λj=>if j<0 then bd (v-u) j else 0)=dw n λ_=>0:=ql λj hj=>by rw[if_neg zo]
  rw[e];exact au.new _ _ _
 case round=>
  obtain⟨k,hk,rfl,rfl,hB,hb⟩:=hrel;by_cases hlt:k<n
  . obtain⟨H1,H2⟩:=aZ (FW.out wr hb k zo) (qG.out wr hb k zo);have hs:=ao7 v u k;have hd:=ao6 v u k GF.out;have hp:=vH v k;have hq:=vH u k;have hr:=abV v u k;have hcell:wr.cell? ⟨w.heap.size,k,none⟩=some (.int .u8 0):=by rw[hB.cell,mL _ _ _ hlt,if_neg zo];rfl
    have hfree:wr.frozen? ⟨w.heap.size,k,none⟩=false:=hB.free _;have bX:=hB.set k (.int .u8 ((bd (v-u) k:Nat):Int))
    rw[CV,ql (g:=λj=>if j<k+1 then bd (v-u) j else 0) λj hj=>by
     by_cases e:j=k
     . subst e;rw[if_pos rfl,if_pos zo]
     . rw[if_neg e];by_cases e2:j<k
       . rw[if_pos e2,if_pos zo]
       . rw[if_neg e2,if_neg zo]]at bX
    obtain⟨fu,Hb⟩:=aZ bX (hb.setCell (p:=⟨w.heap.size,k,none⟩) (Nat.le_refl _) (.int .u8 ((bd (v-u) k:Nat):Int)));clear hB bX hb;generalize bd v k=p at*;generalize bd u k=q at*;generalize bb v u k=r at*;generalize bd (v-u) k=z at*;have Hs:=ar hs;clear hs;obtain⟨S,hS⟩:=aK (2+p-q-r);have hS3:S<=3:=by omega
    have hw1:IntKind.u8.wrap (2+(p:Int))=2+(p:Int):=by rw[IntKind.wrap_u8];omega
    have hw2:IntKind.u8.wrap (2+(p:Int)-(q:Int))=2+(p:Int)-(q:Int):=by rw[IntKind.wrap_u8];omega
    have hw3:IntKind.u8.wrap (2+(p:Int)-(q:Int)-(r:Int))=(S:Int):=by rw[IntKind.wrap_u8];omega
    have hand:bits .and .u8 (S:Int) 1=(z:Int):=by rw[Tv S zo,<-hd];omega
    obtain⟨HS,Hd⟩:=aZ hS hd;clear hS hd;go_wp2_with fail;refine H1.out.mono ?_;rintro e w' ⟨rfl,rfl⟩;go_wp2_with fail;refine H2.out.mono ?_;rintro e w' ⟨rfl,rfl⟩;go_wp2;go_roundw;case rel=>refine⟨k+1,by omega,by go_num,?_,fu.out,Hb.out⟩;rw[Hs.out];have:=HS.out;congr 1;split<;>omega
    case measure=>exact bI
  . obtain rfl:k=n:=by omega
    rw[ql (g:=bd (v-u)) λj hj=>by rw[if_pos hj]]at hB;obtain⟨Hz,Hb⟩:=aZ (Bv.aFK hB xh.out) hb;clear hB hb;go_wp2;go_ret;exact⟨⟨_,rfl,Hz.out,λb o n' c e=>by cases e;exact Nat.le_refl _⟩,Hb.out⟩
end Go.Proofs.YtnjfebkelecgaaaGreatDoor
namespace Go.Proofs.YtnjfebkelecgaaaGreatDoor
open Go.RowKit
abbrev aQ:=List UInt8×Raw
def aY (t:aQ):List Value:=[ai t.1,aj t.2.1,ai t.2.2.1,ah t.2.2.2]
def At.term {w:World}{a:Option Addr}{ts:List aQ}(h:At w a (ts.flatMap aY))(k:Nat)(hk:k<ts.length){l:List UInt8}{s:Bool}{m:List UInt8}{e:Int}(hx:ts[k]=(l,s,m,e)):
 ∃b o,a=some ⟨b,o,none⟩/\bH w b (o+k*4) [ai l,aj s,ai m,ah e]:=by
 obtain⟨b,o,hab,hcs⟩:=h.elem (f:=aY) (sz:=4) (λ_=>rfl) zd k hk;refine⟨b,o,hab,λj hj=>?_⟩;have:=hcs j hj;rw[hx]at this;rw[this];unfold aY;rw[List.getElem?_eq_getElem (by simpa using hj)]
def zH (V:Int)(l:List UInt8)(x:Raw):Bool:=eQ l V&& !(eG (aJ x)==0)&&(canon (aJ x)==x)
def ot (V:Int)(ts:List aQ)(k:Nat):Bool:=zH V (ts.getD k default).1 (ts.getD k default).2&&(k==0||Op.bytesLess (bs (ts.getD (k-1) default).1).toList (bs (ts.getD k default).1).toList)
def mJ (V:Int)(ts:List aQ):Int:=if ¬(0<=V/\V<=12)then 1 else if 4096<ts.length then 3 else if(List.range ts.length).all (ot V ts)then 0 else 1
end Go.Proofs.YtnjfebkelecgaaaGreatDoor
