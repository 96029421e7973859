/- Small facts that many walks share: numbers in memory,windows,own rows. -/
import Derived.Test.YtdaadlblknpipaaGreatDoorZ9
import Derived.Test.YtdaadlblknpipaaGreatDoorZ10
import Derived.Test.YtdaadlblknpipaaGreatDoorZ7
import Derived.Carry
import Derived.Maps.AppendAt
import Derived.Maps.OwnIn
import Derived.Maps.Own
import Derived.Maps.Views
import Derived.Maps.Keyed
import Derived.Maps.OwnSet
import Derived.Shelf.Abstract
import Derived.Shelf.RegionOpen
import Derived.OwnWalkIn
import Derived.TacticsInMore
import Derived.LoopNIn
import Derived.LoopIn
import Derived.Lib.BufferWrite
import Derived.Deep.WholeRow
import Derived.Test.YtdaadlblknpipaaGreatDoorZ5
set_option linter.unusedVariables false
set_option linter.unusedSimpArgs false
set_option maxRecDepth 100000
set_option maxHeartbeats 16000000
namespace Go.Proofs.YtdaadlblknpipaaGreatDoor
open Go.RowKit
attribute [local go_sem ↓] Go.wp_at_zero Go.wp_at_succ
def hp (k:Nat):Dyadic:=Dyadic.ofIntWithPrec 1 k
theorem al2 (D:Dyadic)(k:Nat):aC (ar (dN D),nt (dN D).natAbs,dE D+ -(k:Int))=D*hp k:=by
 have h:=bP D;unfold aC canon at h;unfold aC hp;simp only[ft]at h⊢;conv=>rhs;rw[<-h]
 rw[vW,Int.mul_one];congr 1;omega
theorem ahO (k:Nat):Sm (k+1) (hp k):=by
 refine⟨2,?_,?_⟩
 . unfold hp;rw[<-uf 1 1 k];rfl
 . have:2^2<=2^(2* (k+1)):=Nat.pow_le_pow_right zd zo;omega
theorem Tryz.aqU :(Tryz.prog.info? 30).map (λi=>(i.zero,i.size,i.bytes))=some (some (.agg #[.bool false,.string (bs []),.int .i64 0]),3,32):=by kernel_rfl
def dC (ds:List Dyadic):List Value:=ds.flatMap λd=>bA (canon d)
theorem afr (ds:List Dyadic):(dC ds).length=ds.length*3:=jW _ 3 (λ_=>rfl) ds
theorem rN (a b:List Dyadic):dC (a++b)=dC a++dC b:=by unfold dC;rw[List.flatMap_append]
theorem ajq (n:Nat):madeCells (Value.agg #[.bool false,.string (bs []),.int .i64 0]).cells (n*3)=(dC (List.replicate n 0)).toArray:=by
 have h:∀n,(List.range (n*3)).map (λi=>(Value.agg #[.bool false,.string (bs []),.int .i64 0]).cells[i%3]!)=dC (List.replicate n 0):=by
  intro n;induction n with
  |zero=>rfl
  |succ n ih=>rw[show(n+1) *3=n*3+1+1+1 by omega,List.range_succ,List.range_succ,List.range_succ,List.map_append,List.map_append,List.map_append,ih,List.replicate_succ',rN];simp only[List.map_cons,List.map_nil,List.append_assoc];rw[show n*3%3=0 by omega,show(n*3+1)%3=1 by omega,show(n*3+1+1)%3=2 by omega];rfl
 apply Array.ext';rw[<-h n];simp[madeCells];intro a _;rfl
theorem aks {Y:Nat->Prop}{W W':World}{base:Nat}{e:TypeId}{size:Nat}{v:Value}{n:Nat}{xs:List Value}(h:W.ownsRow base e size v n xs)(hc:Chg Y W W')(hy:∀b,v.ownBlock=some b->¬Y b):W'.ownsRow base e size v n xs:=by
 refine⟨h.1,?_⟩;rcases h.2 with h1|⟨g,cap,cur,rfl,hb,hg,h2,h3,h4,h5⟩
 . exact .inl h1
 . exact .inr ⟨g,cap,cur,rfl,hb,(hc.block g (Array.getElem?_eq_some_iff.1 hg).1 (hy g rfl)).trans hg,h2,h3,h4,h5⟩
theorem dG {W:World}{base:Nat}{e:TypeId}{size:Nat}{v:Value}{n:Nat}{xs:List Value}(h:W.ownsRow base e size v n xs):∃a cap,v=.slice a n cap/\At W a xs/\∀b o,a=some ⟨b,o,none⟩->base<=b:=by
 rcases h.2 with⟨rfl,rfl⟩ |⟨g,cap,cur,rfl,hb,hg,h2,h3,h4,h5⟩
 . refine⟨none,0,rfl,.inl ?_,λb o e=>by cases e⟩;have:=h.1;simpa using this
 . refine⟨_,cap,rfl,.inr ⟨g,0,rfl,λj hj=>?_⟩,λb o e=>by cases e;exact hb⟩;have:=h.cells (g:=g) rfl j (xs[j]) (by simp[hj]);rw[Nat.zero_add];have e2:((⟨g,0,none⟩:Addr).add j)=⟨g,j,none⟩:=by simp[Addr.add];omega
   rw[e2]at this;rw[this];simp[hj]
def bB (w:World)(b o:Nat)(cs:List Value):Prop:=∀j (h:j<cs.length),w.cell? ⟨b,o+j,none⟩=some cs[j]
theorem bB.cell {w:World}{b o:Nat}{cs:List Value}(h:bB w b o cs)(j:Nat)(hj:j<cs.length):w.cell? ⟨b,o+j,none⟩=some cs[j]:=h j hj
theorem bB.w1 {w:World}{b o:Nat}{x0:Value}(h:bB w b o [x0]):w.cell? ⟨b,o,none⟩=some x0:=h 0 zm
theorem bB.w2 {w:World}{b o:Nat}{x0 x1:Value}(h:bB w b o [x0,x1]):w.cell? ⟨b,o,none⟩=some x0/\w.cell? ⟨b,o+1,none⟩=some x1:=⟨h 0 zm,h 1 zm⟩
theorem bB.w3 {w:World}{b o:Nat}{x0 x1 x2:Value}(h:bB w b o [x0,x1,x2]):w.cell? ⟨b,o,none⟩=some x0/\w.cell? ⟨b,o+1,none⟩=some x1/\w.cell? ⟨b,o+2,none⟩=some x2:=⟨h 0 zm,h 1 zm,h 2 zm⟩
theorem bB.w4 {w:World}{b o:Nat}{x0 x1 x2 x3:Value}(h:bB w b o [x0,x1,x2,x3]):w.cell? ⟨b,o,none⟩=some x0/\w.cell? ⟨b,o+1,none⟩=some x1/\w.cell? ⟨b,o+2,none⟩=some x2/\w.cell? ⟨b,o+3,none⟩=some x3:=⟨h 0 zm,h 1 zm,h 2 zm,h 3 zm⟩
theorem bB.below {w w':World}{b o:Nat}{cs:List Value}(h:bB w b o cs)(hb:Bw w w'):bB w' b o cs:=λj hj=>cell_later hb (h j hj)
theorem kW {w w':World}{b o:Nat}{cs:List Value}(h:Hid (bB w b o cs))(k:Bw w w'):Hid (bB w' b o cs):=h.out.below k
theorem Tg (ds:List Dyadic)(i:Nat)(D:Dyadic):(((dC ds).set (i*3) (.bool (ar (dN D)))).set (i*3+1) (.string (bs (nt (dN D).natAbs)))).set (i*3+2) (.int .i64 (dE D))=dC (ds.set i D):=by
 induction ds generalizing i with
 |nil=>simp[dC]
 | cons x ds ih=>
   have e:∀y:Dyadic,∀zs,dC (y::zs)=.bool (ar (dN y))::.string (bs (nt (dN y).natAbs))::.int .i64 (dE y)::dC zs:=λy zs=>rfl;cases i with
   |zero=>rw[e];rfl
   |succ i=>rw[List.set_cons_succ,e,e,<-ih i,show(i+1) *3=i*3+1+1+1 by omega];rfl
theorem pq (ds:List Dyadic):dC ds=(ds.map canon).flatMap bA:=by unfold dC;rw[List.flatMap_map]
theorem fy {P:Program}{fn:Func}{R:Ending->World->Prop}{e:Exit}{a:Act}{W:World}(S:World->Prop)(hS:S W)(h:∀W',S W'->bodyPost P fn R e a W'):bodyPost P fn R e a W:=h W hS
theorem ak.not_row {W:World}{B:Nat}{t e:TypeId}{cs:List Value}(h:ak W B t cs)(hte:t≠e){base size k:Nat}{v:Value}{xs:List Value}(hr:W.ownsRow base e size v k xs):some B≠v.ownBlock:=by
 rcases hr.2 with⟨rfl,_⟩ |⟨g,cap,cur,rfl,_,hgb,_⟩
 . simp[Value.ownBlock]
 . intro e';simp only[Value.ownBlock,Option.some.injEq]at e';subst e';have:=h.symm.trans hgb;simp at this;exact hte this.2
theorem ak.row {W W':World}{B:Nat}{t e:TypeId}{cs:List Value}(h:ak W B t cs)(hte:t≠e){base size k:Nat}{v:Value}{xs:List Value}(hr:W.ownsRow base e size v k xs)(hg:W.grownBy W' v.ownBlock):ak W' B t cs:=
 h.grown hg (h.not_row hte hr)
theorem ownsRow_below {W W':World}{base:Nat}{e:TypeId}{size:Nat}{v:Value}{n:Nat}{xs:List Value}(h:W.ownsRow base e size v n xs)(hb:Bw W W'):W'.ownsRow base e size v n xs:=by refine aks (Y:=λ_=>False) h (Chg.of_below hb) (λ_ _ h=>h)
theorem cZ {W:World}{base:Nat}{e:TypeId}{size:Nat}{v:Value}{n:Nat}{xs:List Value}(h:W.ownsRow base e size v n xs):∀k,v.ownBlock=some k->base<=k:=λk hk=>(h.lt k hk).1
theorem iB {w:World}{b o:Nat}{x y z:Value}(h0:w.cell? ⟨b,o,none⟩=some x)(h1:w.cell? ⟨b,o+1,none⟩=some y)(h2:w.cell? ⟨b,o+2,none⟩=some z):bB w b o [x,y,z]:=by
 intro j hj;rcases j with _|_|_|j
 . exact h0
 . exact h1
 . exact h2
 . simp at hj;omega
theorem fX {W:World}{b:Nat}{t:TypeId}{cs:List Value}(h:ak W b t cs):∀j u,cs[j]?=some u->W.cell? ((⟨b,0,none⟩:Addr).add j)=some u:=by
 intro j u hj;have e2:((⟨b,0,none⟩:Addr).add j)=⟨b,j,none⟩:=by simp[Addr.add];omega
 rw[e2,h.cell];exact hj
theorem At.num {W:World}{a:Option Addr}{cz:List Raw}(h:At W a (cz.flatMap bA))(k:Nat)(hk:k<cz.length){s:Bool}{m:List UInt8}{e:Int}(hx:cz[k]=(s,m,e)):
 ∃b o,a=some ⟨b,o,none⟩/\W.cell? ⟨b,o+k*3,none⟩=some (.bool s)/\W.cell? ⟨b,o+k*3+1,none⟩=some (.string (bs m))/\W.cell? ⟨b,o+k*3+2,none⟩=some (.int .i64 e):=by
 obtain⟨b,o,ha,hc⟩:=h.elem (f:=bA) (sz:=3) (λ_=>rfl) zd k hk;rw[hx]at hc;exact⟨b,o,ha,by simpa[bA]using hc 0 zd,by simpa[bA]using hc 1 zd,by simpa[bA]using hc 2 zd⟩
theorem TN {B:Nat}{cs:List Dyadic}(h:∀c∈cs,Sm B c)(k:Nat):Sm B (cs.getD k 0):=by
 by_cases hk:k<cs.length
 . have:cs.getD k 0=cs[k]:=by simp[hk]
   rw[this];exact h _ (List.getElem_mem hk)
 . have:cs.getD k 0=0:=by simp[List.getD_eq_getElem?_getD,List.getElem?_eq_none (by omega:cs.length<=k)]
   rw[this];exact Sm.zero B
def idxFrom (p:Value->Bool):List Value->Nat->Int
 |[],_=>-1
 |v::l,k=>if p v then(k:Int)else idxFrom p l (k+1)
theorem NN (p:Value->Bool)(l:List Value)(k n:Nat)(h:n<l.length):idxFrom p (l.drop n) k=if p l[n]then(k:Int)else idxFrom p (l.drop (n+1)) (k+1):=by rw[List.drop_eq_getElem_cons h];rfl
theorem Xh (p:Value->Bool)(l:List Value)(k:Nat):decide (0<=idxFrom p l k)=l.any p:=by
 induction l generalizing k with
 |nil=>rfl
 | cons v l ih=>
   unfold idxFrom;rw[List.any_cons];by_cases h:p v=true
   . rw[if_pos h,h,Bool.true_or];simp
   . rw[if_neg h,ih];simp[h]
theorem aid (a:Option Addr)(n cap:Nat)(vals:List Value)(gf:Nat)(lb:Array Value)(p:Value->Bool)(w:World)(hn:vals.length=n)(hl:n<=1099511627776)(ha:At w a vals)
 (eg:∀args w,(callFunc gf args).run Tryz.prog w=.ok (.enter gf args) w)
 (hcl:∀v∈vals,∀W,Bw w W->Calls Tryz.prog gf (#[v]++lb) W λe w'=>e=.returned (.bool (p v))/\Bw W w'):
 Calls Tryz.prog 123 #[.slice a n cap,.func (.func gf) #[] lb] w λe w'=>e=.returned (.int .i64 (idxFrom p vals 0))/\Bw w w':=by
 obtain⟨Hn,Ha,iD,qi⟩:=dS hn ha hcl eg;clear hn ha hcl eg;have Hb:Hid (Bw w w):=Below.refl _ _;go_enter Tryz.func123,Tryz.ntmps123;go_wp2_with fail;go_loopw[5,8] (λ_ i wr=>∃k:Nat,k<=n/\i=.int .i64 (k:Int)/\idxFrom p vals 0=idxFrom p (vals.drop k) k/\Bw w wr) (λ_ i _=>n-(intOf i).toNat);case atStart=>exact⟨0,Nat.zero_le _,rfl,rfl,Hb.out⟩
 case round=>
  clear Hb;obtain⟨k,hk,rfl,gS,pb⟩:=hrel;obtain⟨mV,Hb⟩:=aM gS pb;clear gS pb;by_cases hlt:k<n
  . have bj:k<vals.length:=by rw[Hn.out];exact hlt
    obtain⟨b,o,hab,hcs⟩:=(Ha.out.below Hb.out).get (by intro h;rw[h]at bj;simp at bj);obtain⟨v,hv⟩:=aB (vals[k]);have hc0:wr.cell? ⟨b,o+k,none⟩=some v:=by rw[hcs k bj,List.getElem?_eq_getElem bj,hv]
    have bE:=jN n cap k (k:Int) hab hlt rfl;rw[Nat.mul_one]at bE;have hcall:=iD.out v (by rw[<-hv];exact List.getElem_mem bj) wr Hb.out;have hstep:=NN p vals k k bj;rw[hv,<-mV.out]at hstep;obtain⟨iq,lh⟩:=aM hstep hcall;have sQ:=qi.out;clear hcs hab hv hstep hcall;go_wp2_with fail;refine lh.out.mono ?_;rintro e w1 ⟨rfl,hb1⟩;replace Hb:=ah (aK Hb.out hb1);clear hb1 hc0 bE sQ;obtain⟨t,ht⟩:=aB (p v);rw[ht]at iq⊢;clear ht;cases t with
    |true=>go_wp2;refine bodyPost_ret (results_tmp rfl _ _ _) rfl ⟨?_,Hb.out⟩;have h:=iq.out;rw[if_pos (by trivial)]at h;rw[h];rfl
    | false=>
      go_wp2;go_roundw;case rel=>exact⟨k+1,by omega,by go_num,by have h:=iq.out;rw[if_neg zd]at h;exact h,Hb.out⟩
      case measure=>simp[intOf];omega
  . obtain rfl:k=n:=by omega
    go_wp2;refine bodyPost_ret (results_tmp rfl _ _ _) rfl ⟨?_,Hb.out⟩;have h:=mV.out;rw[List.drop_of_length_le (by rw[Hn.out];exact Nat.le_refl _)]at h;rw[h];rfl
theorem afg (a:Option Addr)(n cap:Nat)(vals:List Value)(gf:Nat)(lb:Array Value)(p:Value->Bool)(w:World)(hn:vals.length=n)(hl:n<=1099511627776)(ha:At w a vals)
 (eg:∀args w,(callFunc gf args).run Tryz.prog w=.ok (.enter gf args) w)
 (hcl:∀v∈vals,∀W,Bw w W->Calls Tryz.prog gf (#[v]++lb) W λe w'=>e=.returned (.bool (p v))/\Bw W w'):
 Calls Tryz.prog 85 #[.slice a n cap,.func (.func gf) #[] lb] w λe w'=>e=.returned (.bool (vals.any p))/\Bw w w':=by
 have h1:=aid a n cap vals gf lb p w hn hl ha eg hcl;rw[<-Xh p vals 0];generalize idxFrom p vals 0=i at*;have H1:=ah h1;clear h1 hcl eg ha hn;have Hb:Hid (Bw w w):=Below.refl _ _;go_enter Tryz.func85,Tryz.ntmps85;go_wp2_with fail;refine(H1.out).mono ?_;rintro e w1 ⟨rfl,ae⟩;replace Hb:=az Hb ae;clear ae;go_wp2;refine bodyPost_ret (v:=.bool (decide (0<=i))) (by simp[results,Tryz.results85,go_sem]) rfl ⟨rfl,?_⟩;(repeat first|exact Hb.out| (refine Below.setCell ?_ (by have:=Hb.out.size;first| (dsimp only;omega) | (show _<=_;omega) | (simp<;>omega)) _) | (refine Below.alloc ?_ zt _) |refine Below.drew ?_)
theorem aic (a:Option Addr)(n cap:Nat)(vals:List Value)(gf:Nat)(lb:Array Value)(p:Value->Bool)(w:World)(hn:vals.length=n)(hl:n<=1099511627776)(ha:At w a vals)
 (eg:∀args w,(callFunc gf args).run Tryz.prog w=.ok (.enter gf args) w)
 (hcl:∀v∈vals,∀W,Bw w W->Calls Tryz.prog gf (#[v]++lb) W λe w'=>e=.returned (.bool (p v))/\Bw W w'):
 Calls Tryz.prog 155 #[.slice a n cap,.func (.func gf) #[] lb] w λe w'=>e=.returned (.int .i64 (idxFrom p vals 0))/\Bw w w':=by
 obtain⟨Hn,Ha,iD,qi⟩:=dS hn ha hcl eg;clear hn ha hcl eg;have Hb:Hid (Bw w w):=Below.refl _ _;go_enter Tryz.func155,Tryz.ntmps155;go_wp2_with fail;go_loopw[5,8] (λ_ i wr=>∃k:Nat,k<=n/\i=.int .i64 (k:Int)/\idxFrom p vals 0=idxFrom p (vals.drop k) k/\Bw w wr) (λ_ i _=>n-(intOf i).toNat);case atStart=>exact⟨0,Nat.zero_le _,rfl,rfl,Hb.out⟩
 case round=>
  clear Hb;obtain⟨k,hk,rfl,gS,pb⟩:=hrel;obtain⟨mV,Hb⟩:=aM gS pb;clear gS pb;by_cases hlt:k<n
  . have bj:k<vals.length:=by rw[Hn.out];exact hlt
    obtain⟨b,o,hab,hcs⟩:=(Ha.out.below Hb.out).get (by intro h;rw[h]at bj;simp at bj);obtain⟨v,hv⟩:=aB (vals[k]);have hc0:wr.cell? ⟨b,o+k,none⟩=some v:=by rw[hcs k bj,List.getElem?_eq_getElem bj,hv]
    have bE:=tZ n cap k (k:Int) hab hlt rfl;rw[Nat.mul_one]at bE;have hcall:=iD.out v (by rw[<-hv];exact List.getElem_mem bj) wr Hb.out;have hstep:=NN p vals k k bj;rw[hv,<-mV.out]at hstep;obtain⟨iq,lh⟩:=aM hstep hcall;have sQ:=qi.out;clear hcs hab hv hstep hcall;go_wp2_with fail;refine lh.out.mono ?_;rintro e w1 ⟨rfl,hb1⟩;replace Hb:=ah (aK Hb.out hb1);clear hb1 hc0 bE sQ;obtain⟨t,ht⟩:=aB (p v);rw[ht]at iq⊢;clear ht;cases t with
    |true=>go_wp2;refine bodyPost_ret (results_tmp rfl _ _ _) rfl ⟨?_,Hb.out⟩;have h:=iq.out;rw[if_pos (by trivial)]at h;rw[h];rfl
    | false=>
      go_wp2;go_roundw;case rel=>exact⟨k+1,by omega,by go_num,by have h:=iq.out;rw[if_neg zd]at h;exact h,Hb.out⟩
      case measure=>simp[intOf];omega
  . obtain rfl:k=n:=by omega
    go_wp2;refine bodyPost_ret (results_tmp rfl _ _ _) rfl ⟨?_,Hb.out⟩;have h:=mV.out;rw[List.drop_of_length_le (by rw[Hn.out];exact Nat.le_refl _)]at h;rw[h];rfl
theorem aff (a:Option Addr)(n cap:Nat)(vals:List Value)(gf:Nat)(lb:Array Value)(p:Value->Bool)(w:World)(hn:vals.length=n)(hl:n<=1099511627776)(ha:At w a vals)
 (eg:∀args w,(callFunc gf args).run Tryz.prog w=.ok (.enter gf args) w)
 (hcl:∀v∈vals,∀W,Bw w W->Calls Tryz.prog gf (#[v]++lb) W λe w'=>e=.returned (.bool (p v))/\Bw W w'):
 Calls Tryz.prog 124 #[.slice a n cap,.func (.func gf) #[] lb] w λe w'=>e=.returned (.bool (vals.any p))/\Bw w w':=by
 have h1:=aic a n cap vals gf lb p w hn hl ha eg hcl;rw[<-Xh p vals 0];generalize idxFrom p vals 0=i at*;have H1:=ah h1;clear h1 hcl eg ha hn;have Hb:Hid (Bw w w):=Below.refl _ _;go_enter Tryz.func124,Tryz.ntmps124;go_wp2_with fail;refine(H1.out).mono ?_;rintro e w1 ⟨rfl,ae⟩;replace Hb:=az Hb ae;clear ae;go_wp2;refine bodyPost_ret (v:=.bool (decide (0<=i))) (by simp[results,Tryz.results124,go_sem]) rfl ⟨rfl,?_⟩;(repeat first|exact Hb.out| (refine Below.setCell ?_ (by have:=Hb.out.size;first| (dsimp only;omega) | (show _<=_;omega) | (simp<;>omega)) _) | (refine Below.alloc ?_ zt _) |refine Below.drew ?_)
theorem aib (a:Option Addr)(n cap:Nat)(vals:List Value)(gf:Nat)(lb:Array Value)(p:Value->Bool)(w:World)(hn:vals.length=n)(hl:n<=1099511627776)(ha:At w a vals)
 (eg:∀args w,(callFunc gf args).run Tryz.prog w=.ok (.enter gf args) w)
 (hcl:∀v∈vals,∀W,Bw w W->Calls Tryz.prog gf (#[v]++lb) W λe w'=>e=.returned (.bool (p v))/\Bw W w'):
 Calls Tryz.prog 126 #[.slice a n cap,.func (.func gf) #[] lb] w λe w'=>e=.returned (.int .i64 (idxFrom p vals 0))/\Bw w w':=by
 obtain⟨Hn,Ha,iD,qi⟩:=dS hn ha hcl eg;clear hn ha hcl eg;have Hb:Hid (Bw w w):=Below.refl _ _;go_enter Tryz.func126,Tryz.ntmps126;go_wp2_with fail;go_loopw[5,8] (λ_ i wr=>∃k:Nat,k<=n/\i=.int .i64 (k:Int)/\idxFrom p vals 0=idxFrom p (vals.drop k) k/\Bw w wr) (λ_ i _=>n-(intOf i).toNat);case atStart=>exact⟨0,Nat.zero_le _,rfl,rfl,Hb.out⟩
 case round=>
  clear Hb;obtain⟨k,hk,rfl,gS,pb⟩:=hrel;obtain⟨mV,Hb⟩:=aM gS pb;clear gS pb;by_cases hlt:k<n
  . have bj:k<vals.length:=by rw[Hn.out];exact hlt
    obtain⟨b,o,hab,hcs⟩:=(Ha.out.below Hb.out).get (by intro h;rw[h]at bj;simp at bj);obtain⟨v,hv⟩:=aB (vals[k]);have hc0:wr.cell? ⟨b,o+k,none⟩=some v:=by rw[hcs k bj,List.getElem?_eq_getElem bj,hv]
    have bE:=Al n cap k (k:Int) hab hlt rfl;rw[Nat.mul_one]at bE;have hcall:=iD.out v (by rw[<-hv];exact List.getElem_mem bj) wr Hb.out;have hstep:=NN p vals k k bj;rw[hv,<-mV.out]at hstep;obtain⟨iq,lh⟩:=aM hstep hcall;have sQ:=qi.out;clear hcs hab hv hstep hcall;go_wp2_with fail;refine lh.out.mono ?_;rintro e w1 ⟨rfl,hb1⟩;replace Hb:=ah (aK Hb.out hb1);clear hb1 hc0 bE sQ;obtain⟨t,ht⟩:=aB (p v);rw[ht]at iq⊢;clear ht;cases t with
    |true=>go_wp2;refine bodyPost_ret (results_tmp rfl _ _ _) rfl ⟨?_,Hb.out⟩;have h:=iq.out;rw[if_pos (by trivial)]at h;rw[h];rfl
    | false=>
      go_wp2;go_roundw;case rel=>exact⟨k+1,by omega,by go_num,by have h:=iq.out;rw[if_neg zd]at h;exact h,Hb.out⟩
      case measure=>simp[intOf];omega
  . obtain rfl:k=n:=by omega
    go_wp2;refine bodyPost_ret (results_tmp rfl _ _ _) rfl ⟨?_,Hb.out⟩;have h:=mV.out;rw[List.drop_of_length_le (by rw[Hn.out];exact Nat.le_refl _)]at h;rw[h];rfl
def Pt (w:World)(v:Value)(cz:List Raw):Prop:=∃a cap,v=.slice a cz.length cap/\At w a (cz.flatMap bA)
theorem Pt.below {w w':World}{v:Value}{cz:List Raw}(h:Pt w v cz)(hb:Bw w w'):Pt w' v cz:=
 let ⟨a,cap,hv,ha⟩:=h;⟨a,cap,hv,ha.below hb⟩
def bo (w:World)(a:Option Addr)(rows:List (List Raw)):Prop:=∃vals:List Value,vals.length=rows.length/\At w a vals/\∀i (h:i<rows.length) (h':i<vals.length),Pt w vals[i] rows[i]
theorem bo.below {w w':World}{a:Option Addr}{rows:List (List Raw)}(h:bo w a rows)(hb:Bw w w'):bo w' a rows:=
 let ⟨vals,hl,ha,hp⟩:=h;⟨vals,hl,ha.below hb,λi h1 h2=>(hp i h1 h2).below hb⟩
theorem kL {w w':World}{a:Option Addr}{rows:List (List Raw)}(h:Hid (bo w a rows))(k:Bw w w'):Hid (bo w' a rows):=h.out.below k
theorem bo.row {w:World}{a:Option Addr}{rows:List (List Raw)}(h:bo w a rows)(k:Nat)(hk:k<rows.length):
 ∃b o a' cap',a=some ⟨b,o,none⟩/\w.cell? ⟨b,o+k,none⟩=some (.slice a' rows[k].length cap')/\At w a' (rows[k].flatMap bA):=by
 obtain⟨vals,hl,ha,hp⟩:=h;have hk2:k<vals.length:=by rw[hl];exact hk
 obtain⟨b,o,hab,hcs⟩:=ha.get (by intro h0;rw[h0]at hk2;simp at hk2);obtain⟨a',cap',hv,hat⟩:=hp k hk hk2;exact⟨b,o,a',cap',hab,by rw[hcs k hk2,List.getElem?_eq_getElem hk2,hv],hat⟩
def vK :Value->Int
 | .slice _ n _=>n
 |_=>0
def yz (N:Int)(v:Value):Bool:=decide (vK v≠N)
theorem SA {w:World}{vals:List Value}{rows:List (List Raw)}(N:Int)(hl:vals.length=rows.length)(hp:∀i (h:i<rows.length) (h':i<vals.length),Pt w vals[i] rows[i]):
 vals.any (yz N)=rows.any λr=>decide ((r.length:Int)≠N):=by
 induction vals generalizing rows with
 |nil=>have:rows=[]:=List.length_eq_zero_iff.1 hl.symm;subst this;rfl
 | cons v vs ih=>
   match rows,hl with
   |r::rs,hl=>have h0:=hp 0 zm zm;obtain⟨a,cap,hv,_⟩:=h0;have hv':v=.slice a r.length cap:=hv;have:=ih (rows:=rs) (by simpa using hl) (λi h h'=>hp (i+1) zi zi);rw[List.any_cons,List.any_cons,this];subst hv';rfl
theorem amT (bn:Nat)(N:Int)(a:Option Addr)(n cap:Nat)(w:World)(hN:w.cell? ⟨bn,0,none⟩=some (.int .i64 N)):
 Calls Tryz.prog 84 #[.slice a n cap,.pointer (some ⟨bn,0,none⟩)] w λe w'=>e=.returned (.bool (yz N (.slice a n cap)))/\Bw w w':=by
 have Hb:Hid (Bw w w):=Below.refl _ _;go_enter Tryz.func84,Tryz.ntmps84;go_wp2;refine bodyPost_ret (results_tmp rfl _ _ _) rfl ⟨?_,Hb.out⟩;simp only[yz,vK];by_cases h:(n:Int)=N<;>simp[h]
def eo (rows:List (List Raw)):Int:=
 let n:Int:=rows.length-1
 if n<1\/8<n\/(rows.any λr=>decide ((r.length:Int)≠n))then 0 else n
theorem Bb (a:Option Addr)(L cap:Nat)(rows:List (List Raw))(w:World)(hL:rows.length=L)(hl:L<=1099511627776)(ha:bo w a rows):
 Calls Tryz.prog 44 #[.slice a L cap] w λe w'=>e=.returned (.int .i64 (eo rows))/\Bw w w':=by
 obtain⟨vals,hvl,hat,hp⟩:=ha;have tF:=λN=>SA (w:=w) N hvl hp;have hcl:∀(bn:Nat) (W:World),W.cell? ⟨bn,0,none⟩=some (.int .i64 ((L:Int)-1))->At W a vals->Calls Tryz.prog 85 #[.slice a L cap,.func (.func 84) #[] #[.pointer (some ⟨bn,0,none⟩)]] W λe w'=>e=.returned (.bool (rows.any λr=>decide ((r.length:Int)≠(L:Int)-1)))/\Bw W w':=by intro bn W hc hA;rw[<-tF];refine afg a L cap vals 84 #[.pointer (some ⟨bn,0,none⟩)] (yz ((L:Int)-1)) W (by rw[hvl,hL]) hl hA (enters_of Tryz.func84 zk rfl) (λv hv W' hb=>?_);obtain⟨i,hi,rfl⟩:=List.mem_iff_getElem.1 hv;obtain⟨a',cap',e,_⟩:=hp i (by rw[<-hvl];exact hi) hi;rw[e];exact amT bn _ a' _ cap' W' (cell_later hb hc)
 have hv:eo rows=if(L:Int)-1<1\/8<(L:Int)-1\/(rows.any λr=>decide ((r.length:Int)≠(L:Int)-1))=true then 0 else(L:Int)-1:=by unfold eo;rw[hL]
 obtain⟨T,hT⟩:=aB (rows.any λr=>decide ((r.length:Int)≠(L:Int)-1));rw[hT]at hv;simp only[hT]at hcl;obtain⟨iD,fx,Hv⟩:=cX hcl hat hv;obtain⟨V,hV⟩:=aB (eo rows);rw[hV]at Hv⊢;clear hcl hat hv tF hvl hp hL hT hV;obtain⟨W,dw,Hb,Hn⟩:=iP w 3 [.int .i64 ((L:Int)-1)];have n0:=Hn.out.c1;go_enter Tryz.func44,Tryz.ntmps44;by_cases h1:(L:Int)-1<1
 . have hv:=Hv.out;rw[if_pos (.inl h1)]at hv;subst hv;go_wp2;refine bodyPost_ret (v:=.int .i64 0) (by simp[results,Tryz.results44,go_sem]) rfl ⟨rfl,?_⟩;(repeat first|exact Hb.out| (refine Below.setCell ?_ (by have:=Hb.out.size;first| (dsimp only;omega) | (show _<=_;omega) | (simp<;>omega)) _) | (refine Below.alloc ?_ zt _) |refine Below.drew ?_)
 . by_cases h2:8<(L:Int)-1
   . have hv:=Hv.out;rw[if_pos (.inr (.inl h2))]at hv;subst hv;go_wp2;refine bodyPost_ret (v:=.int .i64 0) (by simp[results,Tryz.results44,go_sem]) rfl ⟨rfl,?_⟩;(repeat first|exact Hb.out| (refine Below.setCell ?_ (by have:=Hb.out.size;first| (dsimp only;omega) | (show _<=_;omega) | (simp<;>omega)) _) | (refine Below.alloc ?_ zt _) |refine Below.drew ?_)
   . have lh:=ah (iD.out w.heap.size W n0 (fx.out.below Hb.out));go_wp2_with fail;refine(lh.out).mono ?_;rintro e w1 ⟨rfl,ae⟩;clear n0;replace Hn:=kB Hn ae;have n0:=Hn.out.c1;replace Hb:=az Hb ae;clear ae;cases T with
     |true=>have hv:=Hv.out;rw[if_pos (.inr (.inr rfl))]at hv;subst hv;go_wp2;refine bodyPost_ret (v:=.int .i64 0) (by simp[results,Tryz.results44,go_sem]) rfl ⟨rfl,?_⟩;(repeat first|exact Hb.out| (refine Below.setCell ?_ (by have:=Hb.out.size;first| (dsimp only;omega) | (show _<=_;omega) | (simp<;>omega)) _) | (refine Below.alloc ?_ zt _) |refine Below.drew ?_)
     |false=>have hv:=Hv.out;rw[if_neg (by rintro(h|h|h);omega;omega;cases h)]at hv;subst hv;go_wp2;refine bodyPost_ret (v:=.int .i64 ((L:Int)-1)) (by simp[results,Tryz.results44,go_sem]) rfl ⟨rfl,?_⟩;(repeat first|exact Hb.out| (refine Below.setCell ?_ (by have:=Hb.out.size;first| (dsimp only;omega) | (show _<=_;omega) | (simp<;>omega)) _) | (refine Below.alloc ?_ zt _) |refine Below.drew ?_)
theorem ajt (bn:Nat)(a0:Option Addr)(N c0:Nat)(a:Option Addr)(n cap:Nat)(w:World)(hN:w.cell? ⟨bn,0,none⟩=some (.slice a0 N c0)):
 Calls Tryz.prog 125 #[.slice a n cap,.pointer (some ⟨bn,0,none⟩)] w λe w'=>e=.returned (.bool (yz (N:Int) (.slice a n cap)))/\Bw w w':=by
 have Hb:Hid (Bw w w):=Below.refl _ _;go_enter Tryz.func125,Tryz.ntmps125;go_wp2;refine bodyPost_ret (results_tmp rfl _ _ _) rfl ⟨?_,Hb.out⟩;simp only[yz,vK];by_cases h:(n:Int)=(N:Int)<;>simp[h]
def ue (rows:List (List Raw)):Int:=if 8<rows.length\/(rows.any λr=>decide ((r.length:Int)≠(rows.length:Int)))then 1 else 0
theorem Oj (a:Option Addr)(L cap:Nat)(rows:List (List Raw))(w:World)(hL:rows.length=L)(hl:L<=1099511627776)(ha:bo w a rows):
 Calls Tryz.prog 86 #[.slice a L cap] w λe w'=>e=.returned (.int .i64 (ue rows))/\Bw w w':=by
 obtain⟨vals,hvl,hat,hp⟩:=ha;have tF:=λN=>SA (w:=w) N hvl hp;have hcl:∀(bn:Nat) (W:World),W.cell? ⟨bn,0,none⟩=some (.slice a L cap)->At W a vals->Calls Tryz.prog 124 #[.slice a L cap,.func (.func 125) #[] #[.pointer (some ⟨bn,0,none⟩)]] W λe w'=>e=.returned (.bool (rows.any λr=>decide ((r.length:Int)≠(L:Int))))/\Bw W w':=by intro bn W hc hA;rw[<-tF];refine aff a L cap vals 125 #[.pointer (some ⟨bn,0,none⟩)] (yz (L:Int)) W (by rw[hvl,hL]) hl hA (enters_of Tryz.func125 zk rfl) (λv hv W' hb=>?_);obtain⟨i,hi,rfl⟩:=List.mem_iff_getElem.1 hv;obtain⟨a',cap',e,_⟩:=hp i (by rw[<-hvl];exact hi) hi;rw[e];exact ajt bn a L cap a' _ cap' W' (cell_later hb hc)
 have hv:ue rows=if 8<L\/(rows.any λr=>decide ((r.length:Int)≠(L:Int)))=true then 1 else 0:=by unfold ue;rw[hL]
 obtain⟨T,hT⟩:=aB (rows.any λr=>decide ((r.length:Int)≠(L:Int)));rw[hT]at hv;simp only[hT]at hcl;obtain⟨iD,fx,Hv⟩:=cX hcl hat hv;obtain⟨V,hV⟩:=aB (ue rows);rw[hV]at Hv⊢;clear hcl hat hv tF hvl hp hL hT hV;obtain⟨W,dw,Hb,Hn⟩:=iP w 78 [.slice a L cap];have n0:=Hn.out.c1;go_enter Tryz.func86,Tryz.ntmps86;by_cases h1:8<L
 . have hv:=Hv.out;rw[if_pos (.inl h1)]at hv;subst hv;have h2:(8:Int)<(L:Int):=by omega
   go_wp2;refine bodyPost_ret (v:=.int .i64 1) (by simp[results,Tryz.results86,go_sem]) rfl ⟨rfl,?_⟩;(repeat first|exact Hb.out| (refine Below.setCell ?_ (by have:=Hb.out.size;first| (dsimp only;omega) | (show _<=_;omega) | (simp<;>omega)) _) | (refine Below.alloc ?_ zt _) |refine Below.drew ?_)
 . have h2:¬(8:Int)<(L:Int):=by omega
   have lh:=ah (iD.out w.heap.size W n0 (fx.out.below Hb.out));go_wp2_with fail;refine(lh.out).mono ?_;rintro e w1 ⟨rfl,ae⟩;clear n0;replace Hn:=kB Hn ae;have n0:=Hn.out.c1;replace Hb:=az Hb ae;clear ae;cases T with
   |true=>have hv:=Hv.out;rw[if_pos (.inr rfl)]at hv;subst hv;go_wp2;refine bodyPost_ret (v:=.int .i64 1) (by simp[results,Tryz.results86,go_sem]) rfl ⟨rfl,?_⟩;(repeat first|exact Hb.out| (refine Below.setCell ?_ (by have:=Hb.out.size;first| (dsimp only;omega) | (show _<=_;omega) | (simp<;>omega)) _) | (refine Below.alloc ?_ zt _) |refine Below.drew ?_)
   |false=>have hv:=Hv.out;rw[if_neg (by rintro(h|h);omega;cases h)]at hv;subst hv;go_wp2;refine bodyPost_ret (v:=.int .i64 0) (by simp[results,Tryz.results86,go_sem]) rfl ⟨rfl,?_⟩;(repeat first|exact Hb.out| (refine Below.setCell ?_ (by have:=Hb.out.size;first| (dsimp only;omega) | (show _<=_;omega) | (simp<;>omega)) _) | (refine Below.alloc ?_ zt _) |refine Below.drew ?_)
theorem wy {rows:List (List Raw)}{n:Int}(h:eo rows=n)(h0:n≠0):1<=n/\n<=8/\(rows.length:Int)=n+1/\∀r∈rows,(r.length:Int)=n:=by
 unfold eo at h;dsimp only at h;split at h
 . exact absurd h.symm h0
 . rename_i hc
   simp only[not_or,Bool.not_eq_true,List.any_eq_false,decide_eq_true_eq,Decidable.not_not]at hc;obtain⟨h1,h2,h3⟩:=hc;refine⟨by omega,by omega,by omega,λr hr=>?_⟩;have:=h3 r hr;omega
theorem ww {rows:List (List Raw)}{n:Nat}(h1:rows.length=n+1)(h2:∀r∈rows,r.length=n)(h3:1<=n)(h8:n<=8):eo rows=n:=by
 unfold eo;dsimp only;rw[if_neg]
 . omega
 . rintro(h|h|h)
   . omega
   . omega
   . rw[List.any_eq_true]at h;obtain⟨r,hr,h⟩:=h;have:=h2 r hr;simp[h1,this]at h
def Bv (w:World)(x:Value)(n v:Nat):Prop:=v<2^n/\((x=.slice none 0 0/\n=0)\/∃b o cap,x=.slice (some ⟨b,o,none⟩) n cap/\n<=cap/\∀j,j<n->w.cell? ⟨b,o+j,none⟩=some (.int .u8 (bd v j:Int)))
theorem Bv.below {w w':World}{x:Value}{n v:Nat}(h:Bv w x n v)(hb:Bw w w'):Bv w' x n v:=by
 refine⟨h.1,?_⟩;rcases h.2 with h|⟨b,o,cap,e,h1,hc⟩
 . exact .inl h
 . exact .inr ⟨b,o,cap,e,h1,λj hj=>cell_later hb (hc j hj)⟩
theorem Bv.aq0 {w:World}{base:Nat}{e:TypeId}{x:Value}{n v:Nat}(h:w.ownsRow base e 1 x n (cK n (bd v)))(hx:v<2^n):Bv w x n v:=by
 refine⟨hx,?_⟩;rcases h.2 with⟨rfl,rfl⟩ |⟨g,cap,cur,rfl,hb,hg,h2,h3,h4,h5⟩
 . exact .inl ⟨rfl,rfl⟩
 . refine .inr ⟨g,0,cap,rfl,h2,λj hj=>?_⟩;have:=h.cells (g:=g) rfl j _ (kY n (bd v) j hj);have e2:((⟨g,0,none⟩:Addr).add j)=⟨g,j,none⟩:=by simp[Addr.add];omega
   rw[Nat.zero_add,<-e2];exact this
theorem Bv.aqS {w:World}{b:Nat}{t:TypeId}{n v:Nat}(h:ak w b t (cK n (bd v)))(hv:v<2^n):Bv w (.slice (some ⟨b,0,none⟩) n n) n v:=
 ⟨hv,.inr ⟨b,0,n,rfl,Nat.le_refl _,λj hj=>by rw[Nat.zero_add,h.cell,kY _ _ _ hj]⟩⟩
theorem YL (b o n cap v:Nat)(w:World)(hm:n<=1099511627776)(hcap:n<=cap)(hc:∀j,j<n->w.cell? ⟨b,o+j,none⟩=some (.int .u8 (bd v j:Int)))(hv:v<2^n):
 Calls Tryz.prog 160 #[.slice (some ⟨b,o,none⟩) n cap] w λe w'=>e=.returned (.slice (some ⟨b,o,none⟩) (bC v) cap)/\w=w':=by
 have Hc:=ah hc;clear hc;have Hv:=ah hv;clear hv;go_enter Tryz.func160,Tryz.ntmps160;go_wp2_with fail;go_loop [3] (λx=>∃k:Nat,k<=n/\v<2^k/\x=.int .i64 (k:Int)) (λx=>(intOf x).toNat)
 case atStart=>exact⟨n,Nat.le_refl _,Hv.out,rfl⟩
 case round=>
  obtain⟨k,hk,hvk,rfl⟩:=hrel;have na:=ah hvk;clear hvk;by_cases h0:0<k
  . have hcell:w.cell? ⟨b,o+(k-1),none⟩=some (.int .u8 (bd v (k-1):Int)):=Hc.out _ zo;have bE:=vJ n cap (k-1) ((k:Int)-1) (rfl:(some ⟨b,o,none⟩:Option Addr)=_) zo zo;rw[Nat.mul_one]at bE;by_cases hd:bd v (k-1)=0
    . have hd':((bd v (k-1):Int)==0)=true:=by simp[hd]
      have Hd:=ah hd;clear hd;go_wp2;refine⟨⟨k-1,by omega,?_,by go_num⟩,by simp[intOf];omega⟩;refine aeE ?_ Hd.out;rw[show k-1+1=k by omega];exact na.out
    . have hd':((bd v (k-1):Int)==0)=false:=by simp[hd]
      have Hd:=ah hd;clear hd;go_wp2;go_ret;have e:bC v=k:=by have:=aev (v:=v) (k:=k-1) (by rw[show k-1+1=k by omega];exact na.out) (aeD Hd.out);omega
      rw[e];exact⟨rfl,rfl⟩
  . obtain rfl:k=0:=by omega
    go_wp2;go_ret;have e:bC v=0:=by have:=na.out;simp at this;subst this;rfl
    rw[e];exact⟨rfl,rfl⟩
theorem YM (w:World):
 Calls Tryz.prog 160 #[.slice none 0 0] w λe w'=>e=.returned (.slice none 0 0)/\w=w':=by
 go_enter Tryz.func160,Tryz.ntmps160;go_wp2_with fail;refine wp_loop_rounds 1 ?_;rw[rounds_succ];go_wp2;go_ret;exact⟨rfl,rfl⟩
def Cl (x:Value)(lo:Nat):Prop:=∀b o n c,x=.slice (some ⟨b,o,none⟩) n c->lo<=b
theorem OZ (x:Value)(n v:Nat)(w:World)(hm:n<=1099511627776)(hx:Bv w x n v):
 Calls Tryz.prog 160 #[x] w λe w'=>(∃y,e=.returned y/\Bv w y (bC v) v/\∀lo,Cl x lo->Cl y lo)/\w=w':=by
 have hl:=gw hx.1;rcases hx.2 with⟨rfl,rfl⟩ |⟨b,o,cap,rfl,h1,hc⟩
 . refine(YM w).mono ?_;rintro e w' ⟨rfl,rfl⟩;exact⟨⟨_,rfl,⟨pp v,.inl ⟨rfl,by omega⟩⟩,λ_ h=>h⟩,rfl⟩
 . refine(YL b o n cap v w hm h1 hc hx.1).mono ?_;rintro e w' ⟨rfl,rfl⟩;exact⟨⟨_,rfl,⟨pp v,.inr ⟨b,o,cap,rfl,by omega,λj hj=>hc j zo⟩⟩,λlo h b' o' n' c' e=>by cases e;exact h _ _ _ _ rfl⟩,rfl⟩
theorem alI (b o n cap v:Nat)(w:World)(hm:n<=1099511627776)(hcap:n<=cap)(hc:∀j,j<n->w.cell? ⟨b,o+j,none⟩=some (.int .u8 (bd v j:Int)))(hv:v<2^n):
 Calls Tryz.prog 152 #[.slice (some ⟨b,o,none⟩) n cap] w λe w'=>e=.returned (.string (bs (nt v)))/\Bw w w':=by
 have hle:=gw hv;have hcut:=YL b o n cap v w hm hcap hc hv;have hvl:=pp v;have sS:Hid ((List.range ((bC v+7)/8)).map (λj=>UInt8.ofNat (v/256^((bC v+7)/8-1-j)%256))=nt v):=Ox _ _ (Ct v).1 (Ct v).2;generalize hL:bC v=L at*;obtain⟨nb,hnb⟩:=aB ((L+7)/8);have hmk:=rB (((L:Int)+7)/8) nb zo zo;have Ni:((L:Int)+7)/8=(nb:Int):=by omega
 rw[Ni]at hmk;rw[hnb]at sS;obtain⟨abd,Hc,Hv,jF,HL⟩:=fC hcut hc hv hvl hL;clear hcut hc hv hvl hL;go_enter Tryz.func152,Tryz.ntmps152;go_wp2_with fail;refine abd.out.mono ?_;rintro e w' ⟨rfl,rfl⟩;go_wp2_with fail;go_loopw[4] (λi wr=>∃k:Nat,k<=L/\i=.int .i64 (k:Int)/\ak wr w.heap.size 5 (cK nb (λj=>v%2^k/256^(nb-1-j)%256))/\Bw w wr) (λi _=>L-(intOf i).toNat);case atStart=>
  refine⟨0,Nat.zero_le _,rfl,?_,zl⟩;have e:cK nb (λj=>v%2^0/256^(nb-1-j)%256)=cK nb λ_=>0:=mQ λj hj=>by simp[Nat.mod_one]
  rw[e];exact ak.new _ _ _
 case round=>
  obtain⟨k,hk,rfl,hB,hb⟩:=hrel;by_cases hlt:k<L
  . have hq:k/8<nb:=by omega
    obtain⟨Z,hZ⟩:=aB (bd v k);have hZ1:Z<=1:=by rw[<-hZ];exact rL v k
    have jY:wr.cell? ⟨b,o+k,none⟩=some (.int .u8 (Z:Int)):=by rw[<-hZ];exact cell_later hb (Hc.out _ zo)
    obtain⟨A,hA⟩:=aB (v%2^k/256^(k/8)%256);have hcell:wr.cell? ⟨w.heap.size,nb-1-k/8,none⟩=some (.int .u8 (A:Int)):=by rw[hB.cell,kY _ _ _ zo,show nb-1-(nb-1-k/8)=k/8 by omega,hA]
    have hfree:wr.frozen? ⟨w.heap.size,nb-1-k/8,none⟩=false:=hB.free _;obtain⟨hb1,hb2⟩:=aeI v k;rw[hA,hZ]at hb1 hb2;have bT:=hB.set (nb-1-k/8) (.int .u8 ((A+Z*2^(k%8):Nat):Int));have hb3:=hb.setCell (p:=⟨w.heap.size,nb-1-k/8,none⟩) (Nat.le_refl _) (.int .u8 ((A+Z*2^(k%8):Nat):Int))
    rw[yL,mQ (g:=λj=>v%2^(k+1)/256^(nb-1-j)%256) λj hj=>by
     by_cases nC:j=nb-1-k/8
     . subst nC;rw[if_pos rfl,show nb-1-(nb-1-k/8)=k/8 by omega,hb1]
     . rw[if_neg nC,aeJ v k _ zo]]at bT
    obtain⟨eG,Hb⟩:=aM bT hb3;clear hB hb bT hb3 hb1 hA hZ;have He:Hid ((((A:Int)+(Z:Int) *2^(k%8))%256)=((A+Z*2^(k%8):Nat):Int)):=by
     show _=_
     have:((Z:Int) *2^(k%8))=((Z*2^(k%8):Nat):Int):=by simp
     rw[this];omega
    clear hb2;go_wp2;go_region
    go_wp2;go_roundw;case rel=>rw[He.out];exact⟨k+1,by omega,by go_num,eG.out,Hb.out.drew⟩
    case measure=>simp[intOf];omega
  . obtain rfl:k=L:=by omega
    rw[Nat.mod_eq_of_lt jF.out]at hB;have xM:=wm hB nb;rw[sS.out]at xM;have Hb:=ah hb;clear hb hB;go_wp2;go_ret;exact⟨rfl,Hb.out⟩
theorem alJ (w:World):
 Calls Tryz.prog 152 #[.slice none 0 0] w λe w'=>e=.returned (.string (bs []))/\Bw w w':=by
 have hmk:=rB 0 0 rfl zo;have xM:=wm (ak.new w 5 (cK 0 λ_=>0)) 0;go_enter Tryz.func152,Tryz.ntmps152;go_wp2_with fail;refine(YM w).mono ?_;rintro e w' ⟨rfl,rfl⟩;go_wp2_with fail;refine wp_loop_rounds 1 ?_;rw[rounds_succ];go_wp2;go_ret;exact⟨rfl,zl⟩
theorem uj (x:Value)(n v:Nat)(w:World)(hm:n<=1099511627776)(hx:Bv w x n v):
 Calls Tryz.prog 152 #[x] w λe w'=>e=.returned (.string (bs (nt v)))/\Bw w w':=by
 rcases hx.2 with⟨rfl,rfl⟩ |⟨b,o,cap,rfl,h1,hc⟩
 . have h0:=hx.1;obtain rfl:v=0:=by simpa using h0
   exact alJ w
 . exact alI b o n cap v w hm h1 hc hx.1
theorem ZI (n:Nat)(f:Nat->Nat):cK (n+1) f=cK n f++[.int .u8 (f n:Int)]:=by unfold cK;rw[List.range_succ,List.map_append];rfl
theorem alv (N:Nat)(w:World)(hN:N<WW):
 Calls Tryz.prog 119 #[.int .u64 (N:Int)] w λe w'=>e=.returned (.string (bs (nt N)))/\Bw w w':=by
 obtain⟨i0,hi,hz0,hz1,hz2⟩:=info_parts Tryz.aqX;have hNb:bC N<=64:=gw (by rw[kD]at hN;exact hN);have hW:=jq;go_enter Tryz.func119,Tryz.ntmps119;go_wp2_with fail;go_loopw[0,3] (λu v wr=>∃k:Nat,k<=bC N/\u=.int .u64 ((N/2^k:Nat):Int)/\wr.ownsRow w.heap.size 5 1 v k (cK k (bd N))/\Bw w wr) (λu _ _=>(intOf u).toNat);case atStart=>exact⟨0,Nat.zero_le _,by simp,World.ownsRow_nil _ _ _ _,Below.refl _ _⟩
 case round=>
  obtain⟨k,hk,rfl,hown,hb⟩:=hrel;obtain⟨M,hM⟩:=aB (N/2^k);have CM:M<18446744073709551616:=by have:=Nat.div_le_self N (2^k);omega
  have HM:=ah hM;rw[hM];have zW:N/2^(k+1)=M/2:=by rw[Nat.pow_succ,<-Nat.div_div_eq_div_mul,hM]
  have kJ:bd N k=M%2:=by unfold bd;rw[hM]
  obtain⟨wE,jT⟩:=aM zW kJ;clear hM zW kJ hW hN;by_cases h0:0<M
  . have h01:(0:Int)<(M:Int):=by omega
    have hkl:k<bC N:=by
     rcases Nat.lt_or_ge k (bC N)with h|h
     . exact h
     . have h1:N<2^k:=Nat.lt_of_lt_of_le (pp N) (Nat.pow_le_pow_right zd h);have:=HM.out;rw[Nat.div_eq_of_lt h1]at this;omega
    have hs0:=hb.size;have nR:=ah hown;clear hown;go_wp2_with (first| (at_builtin;refine wpList_append_own _ rfl _ _ 111 rfl w.heap.size 5 i0 (.int .u8 0) 1 1 Tryz.underlying111 hi hz0 hz1 hz2 rfl zd _ _ _ rfl (nR.out.alloc _) ⟨wr.heap.size,0,none⟩ 1 1 [.int .u8 ((M:Int)%2)] rfl rfl (cell_one_new _ _ _) zy zx zo zi ?_;intro v' w1 ho hg _;obtain⟨Ho,Hg⟩:=aM ho hg;clear ho hg));go_roundw;case rel=>
     refine⟨k+1,by omega,?_,?_,?_⟩
     . rw[wE.out];go_num
     . rw[ZI,jT.out];have e:((M%2:Nat):Int)=(M:Int)%2:=by omega
       rw[e];exact Ho.out
     . exact(hb.alloc hs0 _).grown Hg.out zi (λj e=>cZ nR.out j e)
    case measure=>simp[intOf];omega
  . obtain rfl:M=0:=by omega
    have VO:N<2^k:=by have:=HM.out;exact(Nat.div_eq_zero_iff_lt (Nat.pow_pos zd)).1 this
    obtain⟨JK,Hb⟩:=aM (Bv.aq0 hown VO) hb;clear hown VO hb;go_wp2_with fail;refine(uj u3 k N wr zo JK.out).mono ?_;rintro e w2 ⟨rfl,hb2⟩;have bQ:=ah hb2;clear hb2;go_wp2;go_ret;exact⟨rfl,aK Hb.out bQ.out⟩
theorem Lf (a:Nat)(ha:a<256):bits .and .u8 (a:Int) 1=((a%2:Nat):Int):=by
 have h1:(BitVec.ofInt 8 (a:Int)).toNat=a:=by rw[BitVec.ofInt_natCast,BitVec.toNat_ofNat];exact Nat.mod_eq_of_lt zo
 show IntKind.u8.wrap ((BitVec.ofInt 8 (a:Int)&&&BitVec.ofInt 8 1).toNat:Int)=_
 rw[BitVec.toNat_and,h1,show(BitVec.ofInt 8 1).toNat=1 from rfl,Nat.and_one_is_mod,IntKind.wrap_u8];omega
theorem oK (l:List UInt8)(w:World)(hl:l.length<=68719476736):
 Calls Tryz.prog 132 #[.string (bs l)] w λe w'=>(∃y,e=.returned y/\Bv w' y (bC (nv l)) (nv l))/\Bw w w':=by
 obtain⟨i0,hi,hz0,hz1,hz2⟩:=info_parts Tryz.aqX;have hsz:(bs l).size=l.length:=nS l;go_enter Tryz.func132,Tryz.ntmps132;go_wp2_with fail;go_loopw[3,4,5] (λv i _ wr=>∃m:Nat,m<=l.length/\i=.int .i64 ((l.length:Int)-1-(m:Int))/\wr.ownsRow w.heap.size 5 1 v (8*m) (cK (8*m) (bd (nv l)))/\Bw w wr) (λ_ i _ _=>(intOf i+1).toNat);case atStart=>exact⟨0,Nat.zero_le _,by go_num,World.ownsRow_nil _ _ _ _,Below.refl _ _⟩
 case round=>
  obtain⟨m,hm,rfl,hown,hb⟩:=hrel;obtain⟨nR,Hb⟩:=aM hown hb;clear hown hb;by_cases hlt:m<l.length
  . have hge:(m:Int)<=(l.length:Int)-1:=by omega
    have gS:=yf l ((l.length:Int)-1-(m:Int)) (l.length-1-m) zo zo;have aa9:Hid (∀k,k<8->l[l.length-1-m].toNat/2^k%2=bd (nv l) (8*m+k)):=λk hk=>akc l m k hlt hk;have hC:=(l[l.length-1-m]'zo).toNat_lt;generalize hCe:l[l.length-1-m].toNat=C at*;clear hCe;go_wp2_with fail;go_loopw[3,5] (λv j wr=>∃k:Nat,k<=8/\j=.int .i64 (k:Int)/\wr.ownsRow w.heap.size 5 1 v (8*m+k) (cK (8*m+k) (bd (nv l)))/\Bw w wr) (λ_ j _=>8-(intOf j).toNat);case atStart=>exact⟨0,Nat.zero_le _,rfl,nR.out,Hb.out⟩
    case round=>
     clear nR Hb;obtain⟨k,hk,rfl,hown,hb⟩:=hrel;obtain⟨nR,Hb⟩:=aM hown hb;have hs0:=hb.size;clear hown hb;by_cases hk8:k<8
     . obtain ⟨Z,hZ⟩:=aB (C/2^k%2);have hbk:=aa9.out k hk8;rw[hZ]at hbk;have BA:=ah hbk;clear hbk;have hand:bits .and .u8 ((C:Int)/2^k) 1=(Z:Int):=by
        have e:(C:Int)/2^k=((C/2^k:Nat):Int):=by simp
        have:=Nat.div_le_self C (2^k);rw[e,Lf _ zo,hZ]
       clear hZ;go_wp2_with (first| (at_builtin;refine wpList_append_own _ rfl _ _ 111 rfl w.heap.size 5 i0 (.int .u8 0) 1 1 Tryz.underlying111 hi hz0 hz1 hz2 rfl zd _ _ _ rfl (nR.out.alloc _) ⟨wr.heap.size,0,none⟩ 1 1 [.int .u8 (Z:Int)] rfl rfl (cell_one_new _ _ _) zy zx zo zi ?_;intro v' w1 ho hg _;obtain⟨Ho,Hg⟩:=aM ho hg;clear ho hg));go_roundw;case rel=>
        refine⟨k+1,by omega,?_,?_,?_⟩
        . go_num
        . rw[<-Nat.add_assoc,ZI,<-BA.out];exact Ho.out
        . exact(Hb.out.alloc hs0 _).grown Hg.out zi (λj e=>cZ nR.out j e)
       case measure=>simp[intOf];omega
     . obtain rfl:k=8:=by omega
       go_wp2;go_roundw;case rel=>exact⟨m+1,by omega,by go_num,nR.out,Hb.out⟩
       case measure=>simp[intOf];omega
  . obtain rfl:m=l.length:=by omega
    have JK:=ah (Bv.aq0 nR.out (nJ l));clear hlt;go_wp2_with fail;refine(OZ u3 (8*l.length) (nv l) wr zo JK.out).mono ?_;rintro e w2 ⟨⟨y,rfl,hy,_⟩,rfl⟩;have Hy:=ah hy;clear hy;go_wp2;go_ret;exact⟨⟨_,rfl,Hy.out⟩,Hb.out⟩
theorem AV (x:Value)(n v i:Nat)(w:World)(hx:Bv w x n v)(hi:i<=1099511627776)(hn:n<=1099511627776):
 Calls Tryz.prog 179 #[x,.int .i64 (i:Int)] w λe w'=>e=.returned (.int .u8 (bd v i:Int))/\w=w':=by
 obtain⟨hv,h⟩:=hx;by_cases hlt:i<n
 . rcases h with⟨rfl,h0⟩ |⟨b,o,cap,rfl,h1,hc⟩
   . omega
   . have hcell:=hc i hlt;have bE:=vJ n cap i (i:Int) (rfl:(some ⟨b,o,none⟩:Option Addr)=_) hlt rfl;rw[Nat.mul_one]at bE;clear hc hv;go_enter Tryz.func179,Tryz.ntmps179;go_wp2;go_ret;exact⟨rfl,rfl⟩
 . have h0:bd v i=0:=aeo hv zo;have H0:=ah h0;clear h0 hv;rcases h with⟨rfl,h0⟩ |⟨b,o,cap,rfl,h1,hc⟩
   . subst h0;go_enter Tryz.func179,Tryz.ntmps179;go_wp2;go_ret;exact⟨by rw[H0.out];rfl,rfl⟩
   . clear hc;go_enter Tryz.func179,Tryz.ntmps179;go_wp2;go_ret;exact⟨by rw[H0.out];rfl,rfl⟩
theorem Bv.len {w:World}{x:Value}{n v:Nat}(h:Bv w x n v):∃a cap,x=.slice a n cap:=by
 rcases h.2 with⟨rfl,rfl⟩ |⟨b,o,cap,rfl,_⟩
 . exact⟨_,_,rfl⟩
 . exact⟨_,_,rfl⟩
theorem YK (x y:Value)(n m v u:Nat)(w:World)(hx:Bv w x n v)(hy:Bv w y m u)(hn:n<=1099511627776)(hm:m<=1099511627776):
 Calls Tryz.prog 176 #[x,y] w λe w'=>e=.returned (.int .i64 (dm v u))/\w=w':=by
 obtain⟨a,cap,jM⟩:=hx.len;obtain⟨a',cap',DW⟩:=hy.len;have ot:=λi (hi:i<=1099511627776)=>AV x n v i w hx hi hn;have hby:=λi (hi:i<=1099511627776)=>AV y m u i w hy hi hm;have hv:=hx.1;have hu:=hy.1;subst jM;subst DW;obtain⟨BB,BC,Hv,Hu⟩:=dS ot hby hv hu;clear ot hby hv hu hx hy;obtain⟨M,hM⟩:=aB (max n m);have hMI:max (n:Int) (m:Int)=(M:Int):=by omega
 have cE:Hid (v/2^M=u/2^M):=by
  show _=_
  rw[Nat.div_eq_of_lt (Nat.lt_of_lt_of_le Hv.out (Nat.pow_le_pow_right zd zo)),Nat.div_eq_of_lt (Nat.lt_of_lt_of_le Hu.out (Nat.pow_le_pow_right zd zo))]
 have CM:M<=1099511627776:=by omega
 clear hM;go_enter Tryz.func176,Tryz.ntmps176;go_wp2_with fail;go_loop [5] (λi=>∃k:Nat,k<=M/\v/2^k=u/2^k/\i=.int .i64 ((k:Int)-1)) (λi=>(intOf i+1).toNat)
 case atStart=>exact⟨M,Nat.le_refl _,cE.out,rfl⟩
 case round=>
  obtain⟨k,hk,hvk,rfl⟩:=hrel;have na:=ah hvk;clear hvk;by_cases h0:0<k
  . obtain⟨j,rfl⟩:∃j,k=j+1:=⟨k-1,by omega⟩;have ot:=BB.out j zo;have hby:=BC.out j zo;obtain⟨yZ,Hgt,Fi⟩:=cX (λh=>SH (v:=v) (u:=u) na.out h) (λh=>SH (v:=u) (u:=v) na.out.symm h) (λh=>aen (v:=v) (u:=u) na.out h);have hp1:=rL v j;have hq1:=rL u j;generalize bd v j=p at*;generalize bd u j=q at*;obtain⟨H1,H2⟩:=aM ot hby;clear ot hby;have hj:((j+1:Nat):Int)-1=(j:Int):=by omega
    rw[hj];clear hj h0;go_wp2_with fail;refine H1.out.mono ?_;rintro e w' ⟨rfl,rfl⟩;go_wp2_with fail;refine H2.out.mono ?_;rintro e w' ⟨rfl,rfl⟩;by_cases hpq:p<q
    . have ahR:(p:Int)<(q:Int):=by omega
      go_wp2;go_ret;have:=yZ.out hpq;exact⟨by unfold dm;rw[if_pos this];rfl,rfl⟩
    . have ahR:¬(p:Int)<(q:Int):=by omega
      go_wp2_with fail;refine H1.out.mono ?_;rintro e w' ⟨rfl,rfl⟩;go_wp2_with fail;refine H2.out.mono ?_;rintro e w' ⟨rfl,rfl⟩;by_cases hqp:q<p
      . have ahU:(q:Int)<(p:Int):=by omega
        go_wp2;go_ret;have:=Hgt.out hqp;exact⟨by unfold dm;rw[if_neg zo,if_pos this];rfl,rfl⟩
      . have ahU:¬(q:Int)<(p:Int):=by omega
        go_wp2;refine⟨⟨j,by omega,Fi.out zo,by go_num⟩,by simp[intOf]⟩
  . obtain rfl:k=0:=by omega
    have he:v=u:=by simpa using na.out
    go_wp2;go_ret;exact⟨by unfold dm;rw[if_neg zo,if_neg zo];rfl,rfl⟩
theorem YP (x y:Value)(n m v u:Nat)(w:World)(hx:Bv w x n v)(hy:Bv w y m u)(hn:n<=1099511627776)(hm:m<=1099511627776)(tW:u<=v):
 Calls Tryz.prog 159 #[x,y] w λe w'=>(∃z,e=.returned z/\Bv w' z n (v-u)/\Cl z w.heap.size)/\Bw w w':=by
 obtain⟨a,cap,jM⟩:=hx.len;obtain⟨a',cap',DW⟩:=hy.len;have ot:=λW (hW:Bw w W) i (hi:i<=1099511627776)=>AV x n v i W (hx.below hW) hi hn;have hby:=λW (hW:Bw w W) i (hi:i<=1099511627776)=>AV y m u i W (hy.below hW) hi hm;have tj:Hid (v-u<2^n):=by show _<_;have:=hx.1;omega
 subst jM;subst DW;obtain⟨BB,BC,Ci⟩:=cX ot hby tW;clear ot hby hx hy tW;have hmk:=rB (n:Int) n rfl zo;go_enter Tryz.func159,Tryz.ntmps159;go_wp2_with fail;go_loopw[6,7,8] (λb i _ wr=>∃k:Nat,k<=n/\i=.int .i64 (k:Int)/\b=.int .u8 (bb v u k:Int)/\ak wr w.heap.size 5 (cK n (λj=>if j<k then bd (v-u) j else 0))/\Bw w wr) (λ_ i _ _=>n-(intOf i).toNat);case atStart=>
  refine⟨0,Nat.zero_le _,rfl,by rw[ael];rfl,?_,zl⟩;have e:cK n (λj=>if j<0 then bd (v-u) j else 0)=cK n λ_=>0:=mQ λj hj=>by rw[if_neg zo]
  rw[e];exact ak.new _ _ _
 case round=>
  obtain⟨k,hk,rfl,rfl,hB,hb⟩:=hrel;by_cases hlt:k<n
  . obtain⟨H1,H2⟩:=aM (BB.out wr hb k zo) (BC.out wr hb k zo);have hs:=aek v u k;have hd:=aej v u k Ci.out;have hp:=rL v k;have hq:=rL u k;have hr:=SF v u k;have hcell:wr.cell? ⟨w.heap.size,k,none⟩=some (.int .u8 0):=by rw[hB.cell,kY _ _ _ hlt,if_neg zo];rfl
    have hfree:wr.frozen? ⟨w.heap.size,k,none⟩=false:=hB.free _;have bT:=hB.set k (.int .u8 ((bd (v-u) k:Nat):Int))
    rw[yL,mQ (g:=λj=>if j<k+1 then bd (v-u) j else 0) λj hj=>by
     by_cases e:j=k
     . subst e;rw[if_pos rfl,if_pos zo]
     . rw[if_neg e];by_cases e2:j<k
       . rw[if_pos e2,if_pos zo]
       . rw[if_neg e2,if_neg zo]]at bT
    obtain⟨eG,Hb⟩:=aM bT (hb.setCell (p:=⟨w.heap.size,k,none⟩) (Nat.le_refl _) (.int .u8 ((bd (v-u) k:Nat):Int)));clear hB bT hb;generalize bd v k=p at*;generalize bd u k=q at*;generalize bb v u k=r at*;generalize bd (v-u) k=z at*;have Hs:=ah hs;clear hs;obtain⟨S,hS⟩:=aB (2+p-q-r);have hS3:S<=3:=by omega
    have hw1:IntKind.u8.wrap (2+(p:Int))=2+(p:Int):=by rw[IntKind.wrap_u8];omega
    have hw2:IntKind.u8.wrap (2+(p:Int)-(q:Int))=2+(p:Int)-(q:Int):=by rw[IntKind.wrap_u8];omega
    have hw3:IntKind.u8.wrap (2+(p:Int)-(q:Int)-(r:Int))=(S:Int):=by rw[IntKind.wrap_u8];omega
    have hand:bits .and .u8 (S:Int) 1=(z:Int):=by rw[Lf S zo,<-hd];omega
    obtain⟨HS,Hd⟩:=aM hS hd;clear hS hd;go_wp2_with fail;refine H1.out.mono ?_;rintro e w' ⟨rfl,rfl⟩;go_wp2_with fail;refine H2.out.mono ?_;rintro e w' ⟨rfl,rfl⟩;go_wp2;go_roundw;case rel=>refine⟨k+1,by omega,by go_num,?_,eG.out,Hb.out⟩;rw[Hs.out];have:=HS.out;congr 1;split<;>omega
    case measure=>simp[intOf];omega
  . obtain rfl:k=n:=by omega
    rw[mQ (g:=bd (v-u)) λj hj=>by rw[if_pos hj]]at hB;obtain⟨Hz,Hb⟩:=aM (Bv.aqS hB tj.out) hb;clear hB hb;go_wp2;go_ret;exact⟨⟨_,rfl,Hz.out,λb o n' c e=>by cases e;exact Nat.le_refl _⟩,Hb.out⟩
end Go.Proofs.YtdaadlblknpipaaGreatDoor
namespace Go.Proofs.YtdaadlblknpipaaGreatDoor
open Go.RowKit
abbrev aL:=List UInt8×Raw
def aO (t:aL):List Value:=[.string (bs t.1),.bool t.2.1,.string (bs t.2.2.1),.int .i64 t.2.2.2]
theorem At.term {w:World}{a:Option Addr}{ts:List aL}(h:At w a (ts.flatMap aO))(k:Nat)(hk:k<ts.length){l:List UInt8}{s:Bool}{m:List UInt8}{e:Int}(hx:ts[k]=(l,s,m,e)):
 ∃b o,a=some ⟨b,o,none⟩/\bB w b (o+k*4) [.string (bs l),.bool s,.string (bs m),.int .i64 e]:=by
 obtain⟨b,o,hab,hcs⟩:=h.elem (f:=aO) (sz:=4) (λ_=>rfl) zd k hk;refine⟨b,o,hab,λj hj=>?_⟩;have:=hcs j hj;rw[hx]at this;rw[this];unfold aO;rw[List.getElem?_eq_getElem (by simpa using hj)]
def CG (V:Int)(l:List UInt8)(x:Raw):Bool:=gj l V&& !(bZ (aC x)==0)&&(canon (aC x)==x)
def qK (V:Int)(ts:List aL)(k:Nat):Bool:=CG V (ts.getD k default).1 (ts.getD k default).2&&(k==0||Op.bytesLess (bs (ts.getD (k-1) default).1).toList (bs (ts.getD k default).1).toList)
def yD (V:Int)(ts:List aL):Int:=if ¬(0<=V/\V<=12)then 1 else if 4096<ts.length then 3 else if(List.range ts.length).all (qK V ts)then 0 else 1
end Go.Proofs.YtdaadlblknpipaaGreatDoor
namespace Go.Proofs.YtdaadlblknpipaaGreatDoor
theorem zF (a:List UInt8):Op.bytesLess a a=false:=by
 induction a with
 |nil=>rfl
 |cons x a ih=>simp[Op.bytesLess,ih]
theorem Cr {a b c:List UInt8}(h:Op.bytesLess a b=true)(k:Op.bytesLess b c=true):Op.bytesLess a c=true:=by
 induction a generalizing b c with
 | nil=>
   cases c with
   |nil=>cases b<;>simp[Op.bytesLess]at k
   |cons z c=>simp[Op.bytesLess]
 | cons x a ih=>
   cases b with
   |nil=>simp[Op.bytesLess]at h
   | cons y b=>
     cases c with
     |nil=>simp[Op.bytesLess]at k
     | cons z c=>
       simp only[Op.bytesLess,Bool.or_eq_true,Bool.and_eq_true,decide_eq_true_eq,beq_iff_eq]at h k⊢;rcases h with h|⟨rfl,h⟩
       . rcases k with k|⟨rfl,k⟩
         . exact .inl (UInt8.lt_trans h k)
         . exact .inl h
       . rcases k with k|⟨rfl,k⟩
         . exact .inl k
         . exact .inr ⟨rfl,ih h k⟩
theorem Cs {a b:List UInt8}(h:Op.bytesLess a b=false)(k:Op.bytesLess b a=false):a=b:=by
 induction a generalizing b with
 | nil=>cases b with
   |nil=>rfl
   |cons y b=>simp[Op.bytesLess]at h
 | cons x a ih=>cases b with
   |nil=>simp[Op.bytesLess]at k
   | cons y b=>
     simp only[Op.bytesLess,Bool.or_eq_false_iff,Bool.and_eq_false_iff,decide_eq_false_iff_not,beq_eq_false_iff_ne]at h k;have e:x=y:=by have h1:=UInt8.not_lt.1 h.1;have h2:=UInt8.not_lt.1 k.1;exact UInt8.le_antisymm h2 h1
     subst e;rw[ih (by rcases h.2 with h|h;exact absurd rfl h;exact h) (by rcases k.2 with h|h;exact absurd rfl h;exact h)]
def PL (x y:aL):aL:=(x.1,canon (aC x.2+aC y.2))
def vR :Nat->List aL->List aL->List aL
 |0,a,b=>a++b
 |_+1,[],b=>b
 |_+1,x::a,[]=>x::a
 |k+1,x::a,y::b=>if Op.bytesLess x.1 y.1 then x::vR k a (y::b)else if Op.bytesLess y.1 x.1 then y::vR k (x::a) b else PL x y::vR k a b
theorem Oq (a b:List aL)(j k:Nat)(hj:a.length+b.length<=j)(hk:a.length+b.length<=k):vR j a b=vR k a b:=by
 induction j generalizing k a b with
 |zero=>have ha:a=[]:=List.length_eq_zero_iff.1 zo;have hb:b=[]:=List.length_eq_zero_iff.1 zo;subst ha;subst hb;cases k<;>rfl
 | succ j ih=>
   cases k with
   |zero=>have ha:a=[]:=List.length_eq_zero_iff.1 zo;have hb:b=[]:=List.length_eq_zero_iff.1 zo;subst ha;subst hb;rfl
   | succ k=>
     cases a with
     |nil=>rfl
     | cons x a=>cases b with
       |nil=>rfl
       |cons y b=>simp only[List.length_cons]at hj hk;simp only[vR];rw[ih a (y::b) k zi zi,ih (x::a) b k zi zi,ih a b k zo zo]
def gG (a b:List aL):List aL:=vR (a.length+b.length) a b
theorem Ax (b:List aL):gG [] b=b:=by
 unfold gG;cases b with
 |nil=>rfl
 |cons y b=>rfl
theorem Ay (a:List aL):gG a []=a:=by
 unfold gG;cases a with
 |nil=>rfl
 |cons y b=>rfl
theorem vS (x y:aL)(a b:List aL):gG (x::a) (y::b)=if Op.bytesLess x.1 y.1 then x::gG a (y::b)else if Op.bytesLess y.1 x.1 then y::gG (x::a) b else PL x y::gG a b:=by
 unfold gG;rw[show(x::a).length+(y::b).length=(a.length+b.length+1)+1 by simp;omega];simp only[vR]
 rw[Oq a (y::b) (a.length+b.length+1) (a.length+(y::b).length) zi zm,Oq (x::a) b (a.length+b.length+1) ((x::a).length+b.length) zi zm,
  Oq a b (a.length+b.length+1) (a.length+b.length) zo zo]
theorem XY (a b:List aL):(gG a b).length<=a.length+b.length:=by
 obtain⟨n,hn⟩:=aB (a.length+b.length);induction n using Nat.strongRecOn generalizing a b with
 | _ n ih=>
   cases a with
   |nil=>rw[Ax];simp
   | cons x a=>cases b with
     |nil=>rw[Ay];simp
     | cons y b=>
       rw[vS];simp only[List.length_cons]at hn⊢;split
       . have:=ih _ (by simp only[List.length_cons];omega) a (y::b) rfl;simp only[List.length_cons]at this⊢;omega
       . split
         . have:=ih _ (by simp only[List.length_cons];omega) (x::a) b rfl;simp only[List.length_cons]at this⊢;omega
         . have:=ih _ zo a b rfl;simp only[List.length_cons]at this⊢;omega
def cj :List aL->List UInt8->Dyadic
 |[],_=>0
 |x::l,m=>(if x.1=m then aC x.2 else 0)+cj l m
theorem xm (a b:List aL)(m:List UInt8):cj (a++b) m=cj a m+cj b m:=by
 induction a with
 |nil=>simp[cj]
 |cons x a ih=>simp only[List.cons_append,cj,ih];grind
theorem SX (a b:List aL)(m:List UInt8):cj (gG a b) m=cj a m+cj b m:=by
 obtain⟨n,hn⟩:=aB (a.length+b.length);induction n using Nat.strongRecOn generalizing a b with
 | _ n ih=>
   cases a with
   |nil=>rw[Ax];simp[cj]
   | cons x a=>cases b with
     |nil=>rw[Ay];simp[cj]
     | cons y b=>
       rw[vS];simp only[List.length_cons]at hn;split
       . have:=ih _ (by simp only[List.length_cons];omega) a (y::b) rfl;simp only[cj]at this⊢;rw[this];grind
       . split
         . have:=ih _ (by simp only[List.length_cons];omega) (x::a) b rfl;simp only[cj]at this⊢;rw[this];grind
         . rename_i h1 h2
           have:=ih _ zo a b rfl;have e:x.1=y.1:=Cs (by simpa using h1) (by simpa using h2);simp only[cj,PL,bP]at this⊢;rw[this,e];split<;>grind
def Up (l:List aL):Prop:=l.Pairwise λx y=>Op.bytesLess x.1 y.1=true
theorem IM (a b:List aL):∀x∈gG a b,∃y∈a++b,y.1=x.1:=by
 obtain⟨n,hn⟩:=aB (a.length+b.length);induction n using Nat.strongRecOn generalizing a b with
 | _ n ih=>
   intro z hz;cases a with
   |nil=>rw[Ax]at hz;exact⟨z,by simp[hz],rfl⟩
   | cons x a=>cases b with
     |nil=>rw[Ay]at hz;exact⟨z,by simpa using hz,rfl⟩
     | cons y b=>
       rw[vS]at hz;simp only[List.length_cons]at hn;split at hz
       . rcases List.mem_cons.1 hz with rfl|hz
         . exact⟨z,by simp,rfl⟩
         . obtain⟨u,hu,e⟩:=ih _ (by simp only[List.length_cons];omega) a (y::b) rfl z hz;exact⟨u,by simp at hu⊢;rcases hu with h|h|h<;>simp[h],e⟩
       . split at hz
         . rcases List.mem_cons.1 hz with rfl|hz
           . exact⟨z,by simp,rfl⟩
           . obtain⟨u,hu,e⟩:=ih _ (by simp only[List.length_cons];omega) (x::a) b rfl z hz;exact⟨u,by simp at hu⊢;rcases hu with h|h|h<;>simp[h],e⟩
         . rcases List.mem_cons.1 hz with rfl|hz
           . exact⟨x,by simp,rfl⟩
           . obtain⟨u,hu,e⟩:=ih _ zo a b rfl z hz;exact⟨u,by simp at hu⊢;rcases hu with h|h<;>simp[h],e⟩
theorem ajC (a b:List aL)(ha:Up a)(hb:Up b):Up (gG a b):=by
 obtain⟨n,hn⟩:=aB (a.length+b.length);induction n using Nat.strongRecOn generalizing a b with
 | _ n ih=>
   cases a with
   |nil=>rw[Ax];exact hb
   | cons x a=>cases b with
     |nil=>rw[Ay];exact ha
     | cons y b=>
       rw[vS];simp only[List.length_cons]at hn;obtain⟨ha1,ha2⟩:=List.pairwise_cons.1 ha;obtain⟨hb1,hb2⟩:=List.pairwise_cons.1 hb;split
       . rename_i h
         refine List.pairwise_cons.2 ⟨λz hz=>?_,ih _ (by simp only[List.length_cons];omega) a (y::b) ha2 hb rfl⟩;obtain⟨u,hu,e⟩:=IM _ _ z hz;rw[<-e];rcases List.mem_append.1 hu with h2|h2
         . exact ha1 u h2
         . rcases List.mem_cons.1 h2 with rfl|h2
           . exact h
           . exact Cr h (hb1 u h2)
       . split
         . rename_i h0 h
           refine List.pairwise_cons.2 ⟨λz hz=>?_,ih _ (by simp only[List.length_cons];omega) (x::a) b ha hb2 rfl⟩;obtain⟨u,hu,e⟩:=IM _ _ z hz;rw[<-e];rcases List.mem_append.1 hu with h2|h2
           . rcases List.mem_cons.1 h2 with rfl|h2
             . exact h
             . exact Cr h (ha1 u h2)
           . exact hb1 u h2
         . rename_i h1 h2
           have e:x.1=y.1:=Cs (by simpa using h1) (by simpa using h2);refine List.pairwise_cons.2 ⟨λz hz=>?_,ih _ zo a b ha2 hb2 rfl⟩;obtain⟨u,hu,e2⟩:=IM _ _ z hz;rw[<-e2];show Op.bytesLess x.1 u.1=true
           rcases List.mem_append.1 hu with h3|h3
           . exact ha1 u h3
           . rw[e];exact hb1 u h3
def sI :Nat->List aL->List aL
 |0,l=>l
 |k+1,l=>if l.length<2 then l else gG (sI k (l.take (l.length/2))) (sI k (l.drop (l.length/2)))
theorem Zk (l:List aL)(j k:Nat)(hj:l.length<=j)(hk:l.length<=k):sI j l=sI k l:=by
 induction j generalizing k l with
 |zero=>have h:l=[]:=List.length_eq_zero_iff.1 zo;subst h;cases k<;>simp[sI]
 | succ j ih=>
   cases k with
   |zero=>have h:l=[]:=List.length_eq_zero_iff.1 zo;subst h;simp[sI]
   | succ k=>
     simp only[sI];split
     . rfl
     . rw[ih (l.take (l.length/2)) k zi zi,ih (l.drop (l.length/2)) k zi zi]
def gK (l:List aL):List aL:=sI l.length l
theorem IZ (l:List aL)(h:l.length<2):gK l=l:=by
 unfold gK;cases l with
 |nil=>rfl
 |cons x l=>simp only[List.length_cons,sI];rw[if_pos (by simpa using h)]
theorem PK (l:List aL)(h:2<=l.length):gK l=gG (gK (l.take (l.length/2))) (gK (l.drop (l.length/2))):=by obtain⟨k,hk⟩:∃k,l.length=k+1:=⟨l.length-1,by omega⟩;unfold gK;rw[hk];simp only[sI];rw[if_neg zo,hk,Zk (l.take ((k+1)/2)) k ((l.take ((k+1)/2)).length) zi (Nat.le_refl _),Zk (l.drop ((k+1)/2)) k ((l.drop ((k+1)/2)).length) zi (Nat.le_refl _)]
theorem IX {Q:List aL->List aL->Prop}(h0:∀l,l.length<2->Q l l)(h1:∀a b c d,Q a c->Q b d->Q (a++b) (gG c d))(l:List aL):Q l (gK l):=by
 obtain⟨n,hn⟩:=aB l.length;induction n using Nat.strongRecOn generalizing l with
 | _ n ih=>
   by_cases h:l.length<2
   . rw[IZ l h];exact h0 l h
   . rw[PK l zo];have:=h1 _ _ _ _ (ih (l.take (l.length/2)).length zi (l.take (l.length/2)) rfl) (ih (l.drop (l.length/2)).length zi (l.drop (l.length/2)) rfl);rwa [List.take_append_drop]at this
theorem afb (l:List aL)(m:List UInt8):cj (gK l) m=cj l m:=
 IX (Q:=λl r=>cj r m=cj l m) (λ_ _=>rfl) (λa b c d h1 h2=>by rw[SX,xm,h1,h2]) l
theorem ame (l:List aL):Up (gK l):=
 IX (Q:=λ_ r=>Up r) (λl h=>by
  cases l with
  |nil=>exact List.Pairwise.nil
  | cons x l=>cases l with
    |nil=>exact List.pairwise_singleton _ _
    |cons y l=>simp at h;omega) (λa b c d h1 h2=>ajC c d h1 h2) l
theorem IY (l:List aL):(gK l).length<=l.length:=
 IX (Q:=λl r=>r.length<=l.length) (λ_ _=>Nat.le_refl _) (λa b c d h1 h2=>by have:=XY c d;simp;omega) l
theorem amd (l:List aL):∀x∈gK l,∃y∈l,y.1=x.1:=
 IX (Q:=λl r=>∀x∈r,∃y∈l,y.1=x.1) (λl _ x hx=>⟨x,hx,rfl⟩) (λa b c d h1 h2 x hx=>by
  obtain⟨y,hy,e⟩:=IM c d x hx;rcases List.mem_append.1 hy with h|h
  . obtain⟨z,hz,e2⟩:=h1 y h;exact⟨z,by simp[hz],e2.trans e⟩
  . obtain⟨z,hz,e2⟩:=h2 y h;exact⟨z,by simp[hz],e2.trans e⟩) l
def gV (x:aL):Bool:=!(bZ (aC x.2)==0)
def bF (l:List aL):List aL:=((gK l).filter gV).map λx=>(x.1,canon (aC x.2))
def Good (l:List aL):Prop:=Up l/\∀x∈l,aC x.2≠0/\x.2=canon (aC x.2)
theorem xq (X:Dyadic):(bZ X==0)=false↔X≠0:=by
 have h:bZ X=0↔X=0:=by
  constructor
  . intro h;have h1:dN X=0:=by
     unfold bZ ej at h;by_cases h1:dN X<0
     . rw[if_pos h1]at h;cases h
     . rw[if_neg h1]at h;by_cases h2:dN X=0
       . exact h2
       . rw[if_neg h2]at h;cases h
    have h2:=sF X;rw[h1,vX]at h2;exact h2
  . rintro rfl;rfl
 rw[beq_eq_false_iff_ne];exact not_congr h
theorem SV (l:List aL)(m:List UInt8):cj (l.filter gV) m=cj l m:=by
 induction l with
 |nil=>rfl
 | cons x l ih=>
   rw[List.filter_cons];split
   . simp only[cj,ih]
   . rename_i h
     have h0:aC x.2=0:=Classical.byContradiction λhc=>h (by unfold gV;rw[(xq _).2 hc];rfl);simp only[cj,ih,h0];split<;>grind
theorem ae6 (l:List aL)(m:List UInt8):cj (l.map λx=>(x.1,canon (aC x.2))) m=cj l m:=by
 induction l with
 |nil=>rfl
 |cons x l ih=>simp only[List.map_cons,cj,ih,bP]
theorem rM (l:List aL)(m:List UInt8):cj (bF l) m=cj l m:=by unfold bF;rw[ae6,SV,afb]
theorem amR {l:List aL}(h:Up l):Up (l.map λx=>(x.1,canon (aC x.2))):=List.Pairwise.map _ (λ_ _ h=>h) h
theorem agF (l:List aL)(h:Up l):Good ((l.filter gV).map λx=>(x.1,canon (aC x.2))):=by
 refine⟨amR (List.Pairwise.filter _ h),λx hx=>?_⟩;obtain⟨y,hy,rfl⟩:=List.mem_map.1 hx;have h2:=(List.mem_filter.1 hy).2;unfold gV at h2;refine⟨?_,?_⟩
 . show aC (canon (aC y.2))≠0
   rw[bP];exact(xq _).1 (by simpa using h2)
 . show canon (aC y.2)=canon (aC (canon (aC y.2)))
   rw[bP]
theorem zJ (l:List aL):Good (bF l):=agF _ (ame l)
theorem xk (l:List aL):(bF l).length<=l.length:=by unfold bF;rw[List.length_map];exact Nat.le_trans (List.length_filter_le _ _) (IY l)
theorem SY (l:List aL)(m:List UInt8)(h:∀x∈l,x.1≠m):cj l m=0:=by
 induction l with
 |nil=>rfl
 |cons x l ih=>simp only[cj];rw[if_neg (h x zm),ih (λy hy=>h y (by simp[hy]))];grind
theorem Good.tail {x:aL}{l:List aL}(h:Good (x::l)):Good l:=⟨(List.pairwise_cons.1 h.1).2,λy hy=>h.2 y (by simp[hy])⟩
theorem Good.off {x:aL}{l:List aL}(h:Good (x::l)):cj l x.1=0:=by refine SY _ _ (λy hy e=>?_);have:=(List.pairwise_cons.1 h.1).1 y hy;rw[e,zF]at this;cases this
theorem Good.head {x:aL}{l:List aL}(h:Good (x::l)):cj (x::l) x.1=aC x.2:=by simp only[cj,if_pos,h.off];grind
theorem Good.before {x y:aL}{l:List aL}(h:Good (y::l))(hx:Op.bytesLess x.1 y.1=true):cj (y::l) x.1=0:=by
 refine SY _ _ (λz hz e=>?_);rcases List.mem_cons.1 hz with rfl|hz
 . rw[e,zF]at hx;cases hx
 . have:=Cr hx ((List.pairwise_cons.1 h.1).1 z hz);rw[e,zF]at this;cases this
theorem TP {a b:List aL}(ha:Good a)(hb:Good b)(h:∀m,cj a m=cj b m):a=b:=by
 induction a generalizing b with
 | nil=>
   cases b with
   |nil=>rfl
   |cons y b=>have:=h y.1;rw[hb.head]at this;exact absurd this.symm (hb.2 y zm).1
 | cons x a ih=>
   cases b with
   |nil=>have:=h x.1;rw[ha.head]at this;exact absurd this (ha.2 x zm).1
   | cons y b=>
     have h1:Op.bytesLess x.1 y.1=false:=by
      cases hc:Op.bytesLess x.1 y.1 with
      |false=>rfl
      |true=>have:=h x.1;rw[ha.head,hb.before hc]at this;exact absurd this (ha.2 x zm).1
     have h2:Op.bytesLess y.1 x.1=false:=by
      cases hc:Op.bytesLess y.1 x.1 with
      |false=>rfl
      |true=>have:=h y.1;rw[hb.head,ha.before hc]at this;exact absurd this.symm (hb.2 y zm).1
     have e1:x.1=y.1:=Cs h1 h2;have e2:aC x.2=aC y.2:=by have:=h x.1;rw[ha.head]at this;rw[this,e1,hb.head]
     have e3:x=y:=by refine Prod.ext e1 ?_;rw[(ha.2 x zm).2,(hb.2 y zm).2,e2]
     subst e3
     rw[ih ha.tail hb.tail (λm=>by
      have:=h m;simp only[cj]at this;generalize (if x.1=m then aC x.2 else 0)=u at this
      grind)]
def Cm (V:Nat)(ts:List aL):Prop:=Good ts/\(∀t∈ts,gj t.1 V=true)/\ts.length<=4096/\V<=12
theorem Yx {V:Nat}{ts:List aL}(h:Cm V ts):yD V ts=0:=by
 obtain⟨⟨h1,h2⟩,h3,h4,h5⟩:=h;unfold yD;rw[if_neg zo,if_neg zo,if_pos];rw[List.all_eq_true];intro k hk;have hk:k<ts.length:=by simpa using hk
 have e:ts.getD k default=ts[k]:=by simp[hk]
 have hm:=List.getElem_mem hk;unfold qK CG;rw[e,h3 _ hm,(xq _).2 (h2 _ hm).1];have e2:(canon (aC ts[k].2)==ts[k].2)=true:=by rw[beq_iff_eq];exact(h2 _ hm).2.symm
 rw[e2];by_cases h0:k=0
 . simp[h0]
 . have hk1:k-1<ts.length:=by omega
   have e3:ts.getD (k-1) default=ts[k-1]:=by simp[hk1]
   have:=List.pairwise_iff_getElem.1 h1 (k-1) k hk1 hk zo;rw[e3,fY,fY,this];simp
theorem Good.aq8 {l:List aL}(h:Good l):∀t∈l,aC t.2=cj l t.1:=by
 induction l with
 |nil=>intro t ht;cases ht
 | cons x l ih=>
   intro t ht;rcases List.mem_cons.1 ht with rfl|ht
   . exact h.head.symm
   . have hne:¬x.1=t.1:=λe=>by have:=(List.pairwise_cons.1 h.1).1 t ht;rw[e,zF]at this;cases this
     simp only[cj,if_neg hne,ih h.tail t ht];grind
theorem afa {B:Nat}{l:List aL}(h:∀x∈l,Sm B (aC x.2))(m:List UInt8):Sm (B+l.length) (cj l m):=by
 induction l with
 |nil=>exact Sm.zero _
 | cons x l ih=>
   have h1:=ih (λy hy=>h y (by simp[hy]));have h2:Sm B (if x.1=m then aC x.2 else 0):=by
    split
    . exact h x zm
    . exact Sm.zero _
   exact((h2.mono (show B<=B+l.length by omega)).add h1).mono zi
theorem ae3 {B:Nat}{l:List aL}(h:∀x∈l,Sm B (aC x.2)):∀t∈bF l,Sm (B+l.length) (aC t.2):=by intro t ht;rw[(zJ l).aq8 t ht,rM];exact afa h _
theorem ae1 (l:List aL):∀x∈bF l,∃y∈l,y.1=x.1:=by intro x hx;unfold bF at hx;obtain⟨y,hy,rfl⟩:=List.mem_map.1 hx;exact amd l y (List.mem_filter.1 hy).1
theorem ae2 {V:Nat}{l:List aL}(hV:V<=12)(hm:∀t∈l,gj t.1 V=true)(hl:l.length<=4096):Cm V (bF l):=
 ⟨zJ l,λt ht=>by obtain⟨y,hy,e⟩:=ae1 l t ht;rw[<-e];exact hm y hy,Nat.le_trans (xk l) hl,hV⟩
theorem zI {a b:List aL}(h:∀m,cj a m=cj b m):bF a=bF b:=TP (zJ a) (zJ b) (λm=>by rw[rM,rM,h m])
theorem ae0 (a b:List aL):bF (bF a++bF b)=bF (a++b):=zI (λm=>by rw[xm,xm,rM,rM])
def dX (c:Dyadic)(l:List aL):List aL:=l.map λx=>(x.1,canon (aC x.2*c))
theorem SZ (c:Dyadic)(l:List aL)(m:List UInt8):cj (dX c l) m=cj l m*c:=by
 induction l with
 |nil=>simp[dX,cj]
 |cons x l ih=>simp only[dX,List.map_cons,cj]at ih⊢;rw[ih,bP];split<;>grind
def mS (n:Nat):List UInt8:=List.replicate n 0
def cL (n k:Nat):List UInt8:=(List.replicate n 0).set k 1
theorem aad (n:Nat):gj (mS n) n=true:=by unfold gj mS;rw[Bool.and_eq_true];refine⟨?_,by simp⟩;rw[List.all_eq_true];intro c hc;rw[(List.mem_replicate.1 hc).2];rfl
theorem PU (n k:Nat):gj (cL n k) n=true:=by
 unfold gj cL;rw[Bool.and_eq_true];refine⟨?_,by simp⟩;rw[List.all_eq_true];intro c hc;rcases List.mem_or_eq_of_mem_set hc with h|h
 . rw[(List.mem_replicate.1 h).2];rfl
 . rw[h];rfl
def iA (n:Nat)(c:Dyadic)(l:Nat->Dyadic)(k:Nat):List aL:=(mS n,canon c)::(List.range k).map λj=>(cL n j,canon (l j))
def dD (n:Nat)(c:Dyadic)(l:Nat->Dyadic)(k:Nat):List aL:=bF (iA n c l k)
theorem DZ (n:Nat)(c:Dyadic)(l:Nat->Dyadic)(k:Nat):(iA n c l k).length=k+1:=by simp[iA]
theorem aiO (n:Nat)(c:Dyadic)(l:Nat->Dyadic)(k:Nat):∀t∈iA n c l k,gj t.1 n=true:=by
 intro t ht;unfold iA at ht;rcases List.mem_cons.1 ht with rfl|ht
 . exact aad n
 . obtain⟨j,_,rfl⟩:=List.mem_map.1 ht;exact PU n j
theorem aiP {B:Nat}(n:Nat)(c:Dyadic)(l:Nat->Dyadic)(k:Nat)(hc:Sm B c)(hl:∀j,j<k->Sm B (l j)):∀t∈iA n c l k,Sm B (aC t.2):=by
 intro t ht;unfold iA at ht;rcases List.mem_cons.1 ht with rfl|ht
 . show Sm B (aC (canon c));rw[bP];exact hc
 . obtain⟨j,hj,rfl⟩:=List.mem_map.1 ht;show Sm B (aC (canon (l j)));rw[bP];exact hl j (by simpa using hj)
theorem Xw (n:Nat)(c:Dyadic)(l:Nat->Dyadic)(k:Nat):iA n c l (k+1)=iA n c l k++[(cL n k,canon (l k))]:=by unfold iA;rw[List.range_succ,List.map_append];rfl
theorem Gd (n:Nat)(c:Dyadic)(l:Nat->Dyadic)(k:Nat)(m:List UInt8):cj (iA n c l (k+1)) m=cj (iA n c l k) m+if cL n k=m then l k else 0:=by rw[Xw,xm];simp only[cj,bP];grind
theorem Xx (n:Nat)(c:Dyadic)(l:Nat->Dyadic)(k:Nat):bF (dD n c l k++bF [(cL n k,canon (l k))])=dD n c l (k+1):=by unfold dD;rw[ae0,Xw]
theorem ae5 (n:Nat)(c d:Dyadic)(l r:Nat->Dyadic)(u v:Dyadic)(k:Nat)(m:List UInt8):cj (iA n (c*u+d*v) (λj=>l j*u+r j*v) k) m=cj (iA n c l k) m*u+cj (iA n d r k) m*v:=by
 induction k with
 |zero=>simp[iA,cj,bP];split<;>grind
 |succ k ih=>rw[Gd,ih,Gd,Gd];split<;>grind
theorem Xv {n:Nat}{c d:Dyadic}{l r:Nat->Dyadic}(k:Nat)(hc:c=d)(h:∀j,j<k->l j=r j):iA n c l k=iA n d r k:=by unfold iA;rw[hc];congr 1;refine List.map_congr_left λj hj=>?_;rw[h j (by simpa using hj)]
theorem aiQ (n:Nat)(c d:Dyadic)(l r:Nat->Dyadic)(k:Nat):bF (dD n c l k++bF (dX (-1) (dD n d r k)))=dD n (c-d) (λj=>l j-r j) k:=by unfold dD;refine zI (λm=>?_);rw[xm,rM,rM,SZ,rM];have h:=ae5 n c d l r 1 (-1) k m;rw[Xv (d:=c-d) (r:=λj=>l j-r j) k (by grind) (λj _=>by grind)]at h;rw[h];grind
def iu (m:List UInt8):List aL->Nat
 |[]=>0
 |x::l=>if Op.bytesLess x.1 m then iu m l+1 else 0
theorem adD (m:List UInt8)(l:List aL):iu m l<=l.length:=by
 induction l with
 |nil=>exact Nat.le_refl _
 |cons x l ih=>unfold iu;split<;>simp<;>omega
def gJ (l:List aL)(x:aL):List aL:=match l with
 |[]=>[(x.1,canon (aC x.2))]
 |y::l=>if Op.bytesLess y.1 x.1 then y::gJ l x else if y.1=x.1 then(x.1,canon (aC y.2+aC x.2))::l else(x.1,canon (aC x.2))::y::l
theorem YA (l:List aL)(x:aL):gJ l x=l.take (iu x.1 l)++(if(l.drop (iu x.1 l)).head?.map (·.1)=some x.1 then(x.1,canon (aC ((l.drop (iu x.1 l)).headD default).2+aC x.2))::l.drop (iu x.1 l+1)else(x.1,canon (aC x.2))::l.drop (iu x.1 l)):=by
 induction l with
 |nil=>simp[gJ,iu]
 | cons y l ih=>
   unfold gJ iu;by_cases h:Op.bytesLess y.1 x.1=true
   . rw[if_pos h,if_pos h,ih,show List.drop (iu x.1 l+1) (y::l)=List.drop (iu x.1 l) l from rfl,show List.drop (iu x.1 l+1+1) (y::l)=List.drop (iu x.1 l+1) l from rfl,List.take_succ_cons,List.cons_append]
   . rw[if_neg h,if_neg h];by_cases e:y.1=x.1
     . rw[if_pos e];simp[e]
     . rw[if_neg e];simp[e]
theorem ae8 (l:List aL)(x:aL)(m:List UInt8):cj (gJ l x) m=cj l m+if x.1=m then aC x.2 else 0:=by
 induction l with
 |nil=>simp only[gJ,cj,bP];grind
 | cons y l ih=>
   unfold gJ;split
   . simp only[cj,ih];grind
   . split
     . rename_i h e
       simp only[cj,bP,e];split<;>grind
     . simp only[cj,bP];grind
theorem akV (l:List aL)(x:aL):∀y∈gJ l x,y.1=x.1\/∃z∈l,z.1=y.1:=by
 induction l with
 |nil=>intro y hy;simp only[gJ,List.mem_singleton]at hy;rw[hy];exact .inl rfl
 | cons z l ih=>
   intro y hy;unfold gJ at hy;split at hy
   . rcases List.mem_cons.1 hy with rfl|hy
     . exact .inr ⟨y,by simp,rfl⟩
     . rcases ih y hy with h|⟨u,hu,e⟩
       . exact .inl h
       . exact .inr ⟨u,by simp[hu],e⟩
   . split at hy
     . rcases List.mem_cons.1 hy with rfl|hy
       . exact .inl rfl
       . exact .inr ⟨y,by simp[hy],rfl⟩
     . rcases List.mem_cons.1 hy with rfl|hy
       . exact .inl rfl
       . exact .inr ⟨y,hy,rfl⟩
theorem akY (l:List aL)(x:aL)(h:Up l):Up (gJ l x):=by
 induction l with
 |nil=>exact List.pairwise_singleton _ _
 | cons y l ih=>
   obtain⟨h1,h2⟩:=List.pairwise_cons.1 h;unfold gJ;split
   . rename_i hy
     refine List.pairwise_cons.2 ⟨λz hz=>?_,ih h2⟩;rcases akV l x z hz with e|⟨u,hu,e⟩
     . rw[e];exact hy
     . rw[<-e];exact h1 u hu
   . rename_i hy
     split
     . rename_i e
       refine List.pairwise_cons.2 ⟨λz hz=>?_,h2⟩;show Op.bytesLess x.1 z.1=true
       rw[<-e];exact h1 z hz
     . rename_i e
       have hlt:Op.bytesLess x.1 y.1=true:=by
        cases hc:Op.bytesLess x.1 y.1 with
        |true=>rfl
        |false=>exact absurd (Cs (by simpa using hy) hc) e
       refine List.pairwise_cons.2 ⟨λz hz=>?_,h⟩;show Op.bytesLess x.1 z.1=true
       rcases List.mem_cons.1 hz with rfl|hz
       . exact hlt
       . exact Cr hlt (h1 z hz)
theorem akU (l:List aL)(x:aL):(gJ l x).length<=l.length+1:=by
 induction l with
 |nil=>exact Nat.le_refl _
 | cons y l ih=>
   unfold gJ;split
   . simp only[List.length_cons];omega
   . split<;>simp
def ik (l:List aL):List aL:=l.foldl gJ []
theorem AP (l:List aL)(x:aL):ik (l++[x])=gJ (ik l) x:=by unfold ik;rw[List.foldl_append];rfl
theorem ED {Q:List aL->Prop}(h0:Q [])(h1:∀l x,Q l->Q (l++[x]))(l:List aL):Q l:=by
 have h:∀r:List aL,Q r.reverse:=by
  intro r;induction r with
  |nil=>exact h0
  |cons x r ih=>rw[List.reverse_cons];exact h1 _ _ ih
 have:=h l.reverse;rwa [List.reverse_reverse]at this
theorem ak2 (l:List aL):Up (ik l):=ED (Q:=λl=>Up (ik l)) List.Pairwise.nil (λl x ih=>by rw[AP];exact akY _ _ ih) l
theorem ae9 (l:List aL)(m:List UInt8):cj (ik l) m=cj l m:=ED (Q:=λl=>cj (ik l) m=cj l m) rfl (λl x ih=>by rw[AP,ae8,ih,xm];simp only[cj];grind) l
theorem ak0 (l:List aL):(ik l).length<=l.length:=ED (Q:=λl=>(ik l).length<=l.length) (Nat.le_refl _) (λl x ih=>by rw[AP];have:=akU (ik l) x;simp;omega) l
theorem akT (l:List aL)(x:aL)(h:∀t∈l,t.2=canon (aC t.2)):∀t∈gJ l x,t.2=canon (aC t.2):=by
 have hc:∀X:Dyadic,canon X=canon (aC (canon X)):=λX=>by rw[bP]
 induction l with
 |nil=>intro t ht;simp only[gJ,List.mem_singleton]at ht;rw[ht];exact hc _
 | cons y l ih=>
   intro t ht;unfold gJ at ht;split at ht
   . rcases List.mem_cons.1 ht with rfl|ht
     . exact h _ zm
     . exact ih (λt ht=>h t (by simp[ht])) t ht
   . split at ht
     . rcases List.mem_cons.1 ht with rfl|ht
       . exact hc _
       . exact h t (by simp[ht])
     . rcases List.mem_cons.1 ht with rfl|ht
       . exact hc _
       . exact h t ht
theorem YB (l:List aL):∀t∈ik l,t.2=canon (aC t.2):=ED (Q:=λl=>∀t∈ik l,t.2=canon (aC t.2)) (λt ht=>by cases ht) (λl x ih=>by rw[AP];exact akT _ _ ih) l
theorem agD (l:List aL):(ik l).filter gV=bF l:=by refine TP ⟨List.Pairwise.filter _ (ak2 l),λx hx=>?_⟩ (zJ l) (λm=>by rw[SV,ae9,rM]);obtain⟨h1,h2⟩:=List.mem_filter.1 hx;refine⟨(xq _).1 ?_,YB l x h1⟩;unfold gV at h2;simpa using h2
end Go.Proofs.YtdaadlblknpipaaGreatDoor
namespace Go.Proofs.YtdaadlblknpipaaGreatDoor
open Go.RowKit
attribute [local go_sem ↓] Go.wp_at_zero Go.wp_at_succ
def uk (a b:List UInt8):Int:=if Op.bytesLess a b then-1 else if Op.bytesLess b a then 1 else 0
theorem al5 (l:List UInt8)(s:Bool)(m:List UInt8)(e:Int)(l':List UInt8)(s':Bool)(m':List UInt8)(e':Int)(w:World):
 Calls Tryz.prog 100 #[.agg #[.string (bs l),.bool s,.string (bs m),.int .i64 e],.agg #[.string (bs l'),.bool s',.string (bs m'),.int .i64 e']] w λex w'=>ex=.returned (.int .i64 (uk l l'))/\Bw w w':=by
 obtain⟨R,hR⟩:=aB (uk l l');unfold uk at hR;rw[show uk l l'=R from hR];obtain⟨W,dw,Hb,Hx,Hy⟩:=pW w 107 [.string (bs l),.bool s,.string (bs m),.int .i64 e] 107 [.string (bs l'),.bool s',.string (bs m'),.int .i64 e'];obtain⟨x0,x1,x2,x3⟩:=Hx.out.c4;obtain⟨y0,y1,y2,y3⟩:=Hy.out.c4;cases h1:Op.bytesLess l l' with
 | true=>
   rw[h1]at hR;simp only[if_true]at hR;subst hR;have h2:Op.bytesLess (bs l).toList (bs l').toList=true:=by rw[fY,fY];exact h1
   clear h1;go_enter Tryz.func100,Tryz.ntmps100;go_wp2;go_ret;exact⟨rfl,Hb.out⟩
 | false=>
   rw[h1]at hR;simp only[Bool.false_eq_true,if_false]at hR;have h2:Op.bytesLess (bs l).toList (bs l').toList=false:=by rw[fY,fY];exact h1
   cases h3:Op.bytesLess l' l with
   | true=>
     rw[h3]at hR;simp only[if_true]at hR;subst hR;have hne:¬l=l':=by rintro rfl;rw[zF]at h3;cases h3
     have h4:((bs l).toList==(bs l').toList)=false:=by rw[fY,fY];simpa using hne
     have h5:¬(bs l).toList=(bs l').toList:=by rw[fY,fY];exact hne
     clear h1 h3 hne;go_enter Tryz.func100,Tryz.ntmps100;go_wp2;go_ret;exact⟨rfl,Hb.out⟩
   |false=>rw[h3]at hR;simp only[Bool.false_eq_true,if_false]at hR;subst hR;obtain rfl:=Cs h1 h3;clear h1 h3;go_enter Tryz.func100,Tryz.ntmps100;go_wp2;go_ret;exact⟨rfl,Hb.out⟩
theorem amk (l:List UInt8)(s:Bool)(m:List UInt8)(e:Int)(l':List UInt8)(s':Bool)(m':List UInt8)(e':Int)(S:Dyadic)(B:Nat)(hS:aC (s,m,e)+aC (s',m',e')=S)(w:World)(hx:Fit B (s,m,e))(hy:Fit B (s',m',e'))(hB:B+2<=268435456)(hT:aF w):
 Calls Tryz.prog 101 #[.agg #[.string (bs l),.bool s,.string (bs m),.int .i64 e],.agg #[.string (bs l'),.bool s',.string (bs m'),.int .i64 e']] w λex w'=>ex=.returned (.agg #[.string (bs l),.bool (ar (dN S)),.string (bs (nt (dN S).natAbs)),.int .i64 (dE S)])/\Bw w w':=by
 obtain⟨iT,mn,HS,HT⟩:=dS hx hy hS hT;clear hx hy hS hT;obtain⟨W,dw,Hb,Hx,Hy,Hr⟩:=rC w 107 [.string (bs l),.bool s,.string (bs m),.int .i64 e] 107 [.string (bs l'),.bool s',.string (bs m'),.int .i64 e'] 107 [.string ⟨#[]⟩,.bool false,.string ⟨#[]⟩,.int .i64 0];obtain⟨x0,x1,x2,x3⟩:=Hx.out.c4;obtain⟨y0,y1,y2,y3⟩:=Hy.out.c4;obtain⟨r0,ai,r1,aj,r2,aG,r3,dh⟩:=Hr.out.g4;go_enter Tryz.func101,Tryz.ntmps101;go_wp2_with fail;refine bM (λw'=>w'.cell? ⟨w.heap.size,0,none⟩=some (.string (bs l))/\w'.cell? ⟨w.heap.size,1,none⟩=some (.bool s)/\w'.cell? ⟨w.heap.size,2,none⟩=some (.string (bs m))/\w'.cell? ⟨w.heap.size,3,none⟩=some (.int .i64 e)/\w'.cell? ⟨w.heap.size+1,0,none⟩=some (.string (bs l'))/\w'.cell? ⟨w.heap.size+1,1,none⟩=some (.bool s')/\w'.cell? ⟨w.heap.size+1,2,none⟩=some (.string (bs m'))/\w'.cell? ⟨w.heap.size+1,3,none⟩=some (.int .i64 e')) (λi=>Nat.blt i 9) [(0,true),(1,true),(2,true),(3,true),(4,true),(5,true),(6,false),(7,false),(8,true),(9,false)] zk zk rfl zk zc ⟨x0,x1,x2,x3,y0,y1,y2,y3⟩ ?_;iterate 6 (refine pT rfl rfl ?_ (by intro w' ⟨q0,q1,q2,q3,q4,q5,q6,q7⟩;go_simp;try with_reducible rfl);try simp only[UU])
 refine aI rfl rfl (λK hK=>?_);go_simp;refine hK _ _ (λ_=>⟨aJ x0,aJ x1,aJ x2,aJ x3,aJ y0,aJ y1,aJ y2,aJ y3⟩) ?_;clear hK K;try simp only[UU]
 refine bO (λW3=>ak W3 (W.heap.size) 30 [.bool s,.string (bs m),.int .i64 e,.bool s',.string (bs m'),.int .i64 e']/\Bw W W3) (by first|exact dU|exact dV) ?_;rintro W3 ⟨qv,ae⟩;clear x0 x1 x2 x3 y0 y1 y2 y3 r0 ai r1 aj r2 aG r3 dh;have aji:=Hx.out.lt;have ajl:=Hy.out.lt;have Ed:=Hr.out.lt;replace Hx:=kB Hx ae;replace Hy:=kB Hy ae;replace Hr:=kB Hr ae;have Hv:=ah qv;clear qv;obtain⟨x0,x1,x2,x3⟩:=Hx.out.c4;obtain⟨y0,y1,y2,y3⟩:=Hy.out.c4;obtain⟨r0,ai,r1,aj,r2,aG,r3,dh⟩:=Hr.out.g4;obtain⟨v0,v1,v2,v3,v4,v5⟩:=Hv.out.c6;replace Hb:=az Hb ae;clear ae;refine aI rfl rfl (λK hK=>?_);go_simp;with_reducible refine(Cw s m e s' m' e' S B HS.out W.heap.size _ 30 _ iT.out mn.out hB Hv.out ((HT.out.below Hb.out))).mono ?_
 rintro e w4 ⟨rfl,hq⟩;have ae:Bw W3 w4:=by first|exact hq|exact aV hq
 clear x0 x1 x2 x3 y0 y1 y2 y3 r0 ai r1 aj r2 aG r3 dh v0 v1 v2 v3 v4 v5;replace Hx:=kB Hx ae;replace Hy:=kB Hy ae;replace Hr:=kB Hr ae;replace Hv:=kB Hv ae;obtain⟨x0,x1,x2,x3⟩:=Hx.out.c4;obtain⟨y0,y1,y2,y3⟩:=Hy.out.c4;obtain⟨r0,ai,r1,aj,r2,aG,r3,dh⟩:=Hr.out.g4;obtain⟨v0,v1,v2,v3,v4,v5⟩:=Hv.out.c6;replace Hb:=az Hb ae;clear ae;refine hK _ _ (λ_=>⟨x0,x1,x2,x3,y0,y1,y2,y3⟩) ?_;clear hK K;try simp only[UU]
 refine pT rfl rfl ?_;try simp only[UU]
 refine aI rfl rfl (λK hK=>?_);go_simp;refine hK _ _ (λh=>absurd h zd) ?_;clear hK K;try simp only[UU]
 clear x0 x1 x2 x3 y0 y1 y2 y3 r0 ai r1 aj r2 aG r3 dh v0 v1 v2 v3 v4 v5;refine bO (bK w4 (w.heap.size+1+1) 0 [.string (bs l),.bool (ar (dN S)),.string (bs (nt (dN S).natAbs)),.int .i64 (dE S)]) bV ?_;intro w5 hs;replace Hx:=kS Hx hs zo;replace Hy:=kS Hy hs zo;replace Hr:=cF Hr hs;replace Hv:=kS Hv hs zo;obtain⟨x0,x1,x2,x3⟩:=Hx.out.c4;obtain⟨y0,y1,y2,y3⟩:=Hy.out.c4;obtain⟨r0,ai,r1,aj,r2,aG,r3,dh⟩:=Hr.out.g4;obtain⟨v0,v1,v2,v3,v4,v5⟩:=Hv.out.c6;replace Hb:=bS Hb hs ZS;clear hs;simp only[aZ];go_wp2;refine bodyPost_ret (v:=.agg #[.string (bs l),.bool (ar (dN S)),.string (bs (nt (dN S).natAbs)),.int .i64 (dE S)]) (by simp[results,Tryz.results101,go_sem,r0,r1,r2,r3]) rfl ⟨rfl,?_⟩;(repeat first|exact Hb.out| (refine Below.setCell ?_ (by have:=Hb.out.size;first| (dsimp only;omega) | (show _<=_;omega) | (simp<;>omega)) _) | (refine Below.alloc ?_ zt _) |refine Below.drew ?_)
theorem aeY (l:List UInt8)(s:Bool)(m:List UInt8)(e:Int)(w:World)(hx:Ok (s,m,e)):
 Calls Tryz.prog 138 #[.agg #[.string (bs l),.bool s,.string (bs m),.int .i64 e]] w λex w'=>ex=.returned (.bool (!gV (l,s,m,e)))/\Bw w w':=by
 obtain⟨g,hg⟩:=aB (bZ (aC (s,m,e)));have hs:=λW=>nU s m e g hg W hx;have hz:(!gV (l,s,m,e))=decide (g=0):=by unfold gV;rw[hg];by_cases h:g=0<;>simp[h]
 rw[hz];have Hs:=ah hs;clear hs hz hg hx;obtain⟨W,dw,Hb,Hx⟩:=iP w 107 [.string (bs l),.bool s,.string (bs m),.int .i64 e];obtain⟨x0,x1,x2,x3⟩:=Hx.out.c4;go_enter Tryz.func138,Tryz.ntmps138;go_wp2_with fail;refine(Hs.out _).mono ?_;rintro e w1 ⟨rfl,ae⟩;clear x0 x1 x2 x3;replace Hx:=kB Hx ae;obtain⟨x0,x1,x2,x3⟩:=Hx.out.c4;replace Hb:=az Hb ae;clear ae;go_wp2;refine bodyPost_ret (results_tmp rfl _ _ _) rfl ⟨?_,Hb.out⟩;by_cases h:g=0<;>simp[h]
theorem ajr (l:List UInt8)(s:Bool)(m:List UInt8)(e:Int)(V:Int)(bv:Nat)(w:World)(hv:w.cell? ⟨bv,0,none⟩=some (.int .i64 V))(hl:l.length<=9223372036854775807):
 Calls Tryz.prog 135 #[.agg #[.string (bs l),.bool s,.string (bs m),.int .i64 e],.pointer (some ⟨bv,0,none⟩)] w λex w'=>ex=.returned (.bool (!gj l V))/\Bw w w':=by
 have hm:=λW=>Oo l V W hl;obtain⟨t,ht⟩:=aB (gj l V);rw[ht]at hm⊢;obtain⟨Hm,Hv⟩:=aM hm hv;clear hm ht hv;obtain⟨W,dw,Hb,Hx⟩:=iP w 107 [.string (bs l),.bool s,.string (bs m),.int .i64 e];obtain⟨x0,x1,x2,x3⟩:=Hx.out.c4;have hv2:=cell_later Hb.out Hv.out;go_enter Tryz.func135,Tryz.ntmps135;go_wp2_with fail;refine(Hm.out _).mono ?_;rintro e w1 ⟨rfl,ae⟩;clear x0 x1 x2 x3;replace Hx:=kB Hx ae;obtain⟨x0,x1,x2,x3⟩:=Hx.out.c4;replace Hb:=az Hb ae;clear ae hv2;go_wp2;refine bodyPost_ret (results_tmp rfl _ _ _) rfl ⟨rfl,Hb.out⟩
def ul (p q:List Dyadic):Nat->Dyadic
 |0=>0
 |k+1=>ul p q k+(p.getD k 0-q.getD k 0) * (p.getD k 0-q.getD k 0)
theorem Zj {B:Nat}{p q:List Dyadic}(hp:∀c∈p,Sm B c)(hq:∀c∈q,Sm B c)(k:Nat):Sm (2*B+2+k) (ul p q k):=by
 induction k with
 |zero=>exact Sm.zero _
 |succ k ih=>have h1:=Sm.sub (TN hp k) (TN hq k);have h2:=Sm.mul h1 h1;exact Sm.add ih (h2.mono (show B+1+(B+1)<=2*B+2+k by omega))
theorem amb (a:Option Addr)(n cap:Nat)(P:List Raw)(a':Option Addr)(cap':Nat)(Q:List Raw)(B:Nat)(w:World)(hP:P.length=n)(hQ:Q.length=n)(hn:n<=8)(ha:At w a (P.flatMap bA))(ha':At w a' (Q.flatMap bA))
 (MN:∀x∈P,Fit B x) (MO:∀x∈Q,Fit B x) (hB:B<=10000000) (hT:aF w):
 Calls Tryz.prog 89 #[.slice a n cap,.slice a' n cap'] w λe w'=>e=.returned (bH (ul (P.map aC) (Q.map aC) n))/\Bw w w':=by
 have WE:∀c∈P.map aC,Sm B c:=λc hc=>by obtain⟨x,hx,rfl⟩:=List.mem_map.1 hc;exact(MN x hx).2
 have WF:∀c∈Q.map aC,Sm B c:=λc hc=>by obtain⟨x,hx,rfl⟩:=List.mem_map.1 hc;exact(MO x hx).2
 have vE:=λk=>Zj WE WF k;have hstep:∀k (h1:k<P.length) (h2:k<Q.length),ul (P.map aC) (Q.map aC) (k+1)=ul (P.map aC) (Q.map aC) k+(aC P[k]-aC Q[k]) * (aC P[k]-aC Q[k]):=λk h1 h2=>by
  have e1:(P.map aC).getD k 0=aC P[k]:=by simp[h1]
  have e2:(Q.map aC).getD k 0=aC Q[k]:=by simp[h2]
  rw[ul,e1,e2]
 have hs0:ul (P.map aC) (Q.map aC) 0=0:=rfl;obtain⟨F,hF⟩:=aB (ul (P.map aC) (Q.map aC));rw[hF]at hs0⊢;simp only[hF]at vE hstep;obtain⟨HP,HQ,Ha,oO,JW,BF,HT,Hsq,iq,qw⟩:=yj hP hQ ha ha' MN MO hT vE hstep hs0;clear hP hQ ha ha' MN MO hT vE hstep hs0 hF WE WF;obtain⟨W,dw,Hb,Hr,Hs⟩:=pW w 30 [.bool false,.string ⟨#[]⟩,.int .i64 0] 30 [.bool false,.string ⟨#[]⟩,.int .i64 0];obtain⟨r0,ai,r1,aj,r2,aG⟩:=Hr.out.g3;obtain⟨s0,bW,s1,bX,s2,cJ⟩:=Hs.out.g3;go_enter Tryz.func89,Tryz.ntmps89;go_wp2_with fail;clear r0 ai r1 aj r2 aG s0 bW s1 bX s2 cJ;first|refine bN (bK W (w.heap.size+1) 0 [.bool false,.string ⟨#[]⟩,.int .i64 0]) bV ?_|refine bL (bK W (w.heap.size+1) 0 [.bool false,.string ⟨#[]⟩,.int .i64 0]) bV ?_
 intro w1 hs;replace Hr:=kS Hr hs zo;replace Hs:=cF Hs hs;obtain⟨r0,ai,r1,aj,r2,aG⟩:=Hr.out.g3;obtain⟨s0,bW,s1,bX,s2,cJ⟩:=Hs.out.g3;replace Hb:=bS Hb hs ZS;clear hs;have lr:=Hr.out.lt;have ls:=Hs.out.lt;go_wp2_with fail;go_loopw[11] (λi wr=>∃(k:Nat) (X:Dyadic),k<=n/\i=.int .i64 (k:Int)/\F k=X/\ak wr w.heap.size 30 [.bool false,.string ⟨#[]⟩,.int .i64 0]/\ak wr (w.heap.size+1) 30 (bA (canon X))/\Bw w wr) (λi _=>n-(intOf i).toNat);case atStart=>exact⟨0,0,Nat.zero_le _,rfl,qw.out,Hr.out,Hs.out,Hb.out⟩
 case round=>
  clear r0 r1 r2 ai aj aG s0 s1 s2 bW bX cJ Hr Hs;obtain⟨k,X,hk,rfl,hX,pr,ps,pb⟩:=hrel;by_cases hlt:k<n
  . have k1:k<P.length:=by rw[HP.out];exact hlt
    have k2:k<Q.length:=by rw[HQ.out];exact hlt
    obtain⟨sp,mp,ep,gg⟩:=kI (P[k]);obtain⟨sq,mq,eq,jB⟩:=kI (Q[k]);have eJ:=JW.out _ (List.getElem_mem k1);have iX:=BF.out _ (List.getElem_mem k2);have hst:=iq.out k k1 k2;rw[gg]at eJ hst;rw[jB]at iX hst;obtain⟨D,hD⟩:=aB (aC (sp,mp,ep)-aC (sq,mq,eq));obtain⟨E,hE⟩:=aB (D*D);obtain⟨Y,hY⟩:=aB (X+E);rw[hX,hD,hE,hY]at hst;have fJ:Sm (B+1) D:=by rw[<-hD];exact Sm.sub eJ.2 iX.2
    have qO:Sm (2*B+2) E:=by rw[<-hE];exact(Sm.mul fJ fJ).mono zo
    have fA:Sm (2*B+2+k) X:=by rw[<-hX];exact Hsq.out k
    obtain⟨b1,o1,eI,p0,p1,p2⟩:=(Ha.out.below pb).num k k1 gg;obtain⟨b2,o2,fg,q0,q1,q2⟩:=(oO.out.below pb).num k k2 jB;have kd:=lM n cap k (k:Int) eI hlt rfl;have ov:=lM n cap' k (k:Int) fg hlt rfl;have Hp:Hid (bB wr b1 (o1+k*3) [.bool sp,.string (bs mp),.int .i64 ep]):=iB p0 p1 p2;have Hq:Hid (bB wr b2 (o2+k*3) [.bool sq,.string (bs mq),.int .i64 eq]):=iB q0 q1 q2;obtain⟨lj,sV,HD,HE,HY,cE,HDs,HEs,yQ,Hr⟩:=yj eJ iX hD hE hY hst fJ qO fA pr;have Hs:Hid (ak wr (w.heap.size+1) 30 [.bool (ar (dN X)),.string (bs (nt (dN X).natAbs)),.int .i64 (dE X)]):=ps;obtain⟨gL,cV⟩:=aM pb (HT.out.below pb);have PP:=pb.size;clear pr ps pb eJ iX hst hD hE hY fJ qO fA p0 p1 p2 q0 q1 q2 gg jB hX eI fg;have Hb:Hid (Bw wr wr):=Below.refl _ _;go_upto_region 5 with fail
    go_cut[7] (λs7 wx=>∃g:Nat,s7=.pointer (some ⟨g,0,none⟩)/\wr.heap.size<=g/\ak wx g 30 [.bool (ar (dN D)),.string (bs (nt (dN D).natAbs)),.int .i64 (dE D)]/\Bw wr wx);case first=>
     have p0:wr.cell? ⟨b1,o1+k*3,none⟩=some (.bool sp):=Hp.out.cell 0 zm;have p1:wr.cell? ⟨b1,o1+k*3+1,none⟩=some (.string (bs mp)):=Hp.out.cell 1 zm;have p2:wr.cell? ⟨b1,o1+k*3+2,none⟩=some (.int .i64 ep):=Hp.out.cell 2 zm;have q0:wr.cell? ⟨b2,o2+k*3,none⟩=some (.bool sq):=Hq.out.cell 0 zm;have q1:wr.cell? ⟨b2,o2+k*3+1,none⟩=some (.string (bs mq)):=Hq.out.cell 1 zm;have q2:wr.cell? ⟨b2,o2+k*3+2,none⟩=some (.int .i64 eq):=Hq.out.cell 2 zm;obtain⟨p0,p1,p2⟩:=Hp.out.w3;obtain⟨q0,q1,q2⟩:=Hq.out.w3;refine Qf (λw'=>w'.cell? ⟨b1,o1+k*3,none⟩=some (.bool sp)/\w'.cell? ⟨b1,o1+k*3+1,none⟩=some (.string (bs mp))/\w'.cell? ⟨b1,o1+k*3+2,none⟩=some (.int .i64 ep)/\w'.cell? ⟨b2,o2+k*3,none⟩=some (.bool sq)/\w'.cell? ⟨b2,o2+k*3+1,none⟩=some (.string (bs mq))/\w'.cell? ⟨b2,o2+k*3+2,none⟩=some (.int .i64 eq)) (λi=>Nat.blt i 10) 8 9 [(9,false),(10,false)] [(8,false),(10,false)] [0,1,2,3,4,5,6,7] zk zk rfl rfl zk zc ⟨p0,p1,p2,q0,q1,q2⟩ ?_;iterate 8 (refine OP rfl rfl (v:=?_) (λw' hw'=>?_) ?_;rotate_left;(focus obtain⟨q0,q1,q2,q3,q4,q5⟩:=hw';go_simp;try with_reducible rfl);try simp only[UU])
     refine OL rfl rfl rfl rfl (λK hK=>?_) (λK hK=>?_)
     . go_simp;with_reducible refine(zM sp mp ep sq mq eq D B HD.out _ lj.out sV.out zo (by first|exact cV.out|exact aF.drew cV.out|exact aF.alloc cV.out _|exact aF.drew (aF.alloc cV.out _) |exact aF.alloc (aF.drew cV.out) _)).mono ?_
       rintro e w5 ⟨rfl,hq⟩;have di:Bw wr w5:=aV hq;refine hK _ _ ⟨cell_later di p0,cell_later di p1,cell_later di p2,cell_later di q0,cell_later di q1,cell_later di q2⟩ ?_;try simp only[UU]
       refine aI rfl rfl (λK hK=>?_);go_simp;refine hK _ _ (λ_=>⟨aJ (cell_later di p0),aJ (cell_later di p1),aJ (cell_later di p2),aJ (cell_later di q0),aJ (cell_later di q1),aJ (cell_later di q2)⟩) ?_;try simp only[UU]
       refine aI rfl rfl (λK hK=>?_);go_simp;refine hK _ _ (λh=>absurd h zd) ?_;simp only[aZ];go_wp2_with fail;go_meet;exact⟨w5.heap.size,rfl,di.size,ak.new _ _ _,di.alloc di.size _⟩
     . go_simp;refine hK _ _ ⟨aJ p0,aJ p1,aJ p2,aJ q0,aJ q1,aJ q2⟩ ?_;try simp only[UU]
       refine aI rfl rfl (λK hK=>?_);go_simp;with_reducible refine(zM sp mp ep sq mq eq D B HD.out _ lj.out sV.out zo (by first|exact cV.out|exact aF.drew cV.out|exact aF.alloc cV.out _|exact aF.drew (aF.alloc cV.out _) |exact aF.alloc (aF.drew cV.out) _)).mono ?_
       rintro e w5 ⟨rfl,hq⟩;have di:Bw wr w5:=qF hq;have Hn:ak w5 wr.heap.size 30 [.bool false,.string ⟨#[]⟩,.int .i64 0]:=ak.below (ak.new wr.drew 30 [.bool false,.string ⟨#[]⟩,.int .i64 0]) hq;obtain⟨n0,fN,n1,fO,n2,fP⟩:=Hn.g3;refine hK _ _ (λ_=>⟨cell_later di p0,cell_later di p1,cell_later di p2,cell_later di q0,cell_later di q1,cell_later di q2⟩) ?_;try simp only[UU]
       refine aI rfl rfl (λK hK=>?_);go_simp;refine hK _ _ (λh=>absurd h zd) ?_;simp only[aZ];go_wp2_with fail;go_meet;exact⟨wr.heap.size,rfl,Nat.le_refl _,((Hn.set 0 _).set 1 _).set 2 _,((di.sc wr.heap.size 0 (Nat.le_refl _) _).sc wr.heap.size 1 (Nat.le_refl _) _).sc wr.heap.size 2 (Nat.le_refl _) _⟩
    case rest=>
     obtain⟨g,rfl,hg,qd,qb⟩:=hcut;have Fj:Hid (Fit (B+1) (ar (dN D),nt (dN D).natAbs,dE D)):=HDs.out.fit zo;have HfX:Hid (Fit (2*B+10) (ar (dN X),nt (dN X).natAbs,dE X)):=(yQ.out.mono zo).fit zo;have HfE:Hid (Fit (2*B+10) (ar (dN E),nt (dN E).natAbs,dE E)):=(HEs.out.mono zo).fit zo;have HmE:Hid (aC (ar (dN D),nt (dN D).natAbs,dE D) *aC (ar (dN D),nt (dN D).natAbs,dE D)=E):=by show aC (canon D) *aC (canon D)=E;rw[bP];exact HE.out
     have HaY:Hid (aC (ar (dN X),nt (dN X).natAbs,dE X)+aC (ar (dN E),nt (dN E).natAbs,dE E)=Y):=by show aC (canon X)+aC (canon E)=Y;rw[bP,bP];exact HY.out
     have XI:=Hs.out.lt;replace Hr:=ah (Hr.out.below qb);replace Hs:=ah (Hs.out.below qb);have Hd:=ah qd;replace cV:=ah (cV.out.below qb);clear Hb;have Hb:=ah (aK gL.out qb);have lg:=Hd.out.lt;clear qd qb;obtain⟨r0,r1,r2⟩:=Hr.out.c3;obtain⟨s0,bW,s1,bX,s2,cJ⟩:=Hs.out.g3;obtain⟨d0,d1,d2⟩:=Hd.out.c3;have cV:Hid (aF wc):=cV.out;go_wp2_with fail;refine bM (λw'=>w'.cell? ⟨w.heap.size+1,0,none⟩=some (.bool (ar (dN X)))/\w'.cell? ⟨w.heap.size+1,1,none⟩=some (.string (bs (nt (dN X).natAbs)))/\w'.cell? ⟨w.heap.size+1,2,none⟩=some (.int .i64 (dE X))/\w'.cell? ⟨g,0,none⟩=some (.bool (ar (dN D)))/\w'.cell? ⟨g,1,none⟩=some (.string (bs (nt (dN D).natAbs)))/\w'.cell? ⟨g,2,none⟩=some (.int .i64 (dE D))) (λi=>Nat.blt i 7) [(0,true),(1,true),(2,true),(3,false),(4,false),(5,false),(6,false),(7,false)] zk zk rfl zk zc ⟨s0,s1,s2,d0,d1,d2⟩ ?_;iterate 3 (refine pT rfl rfl ?_ (by intro w' ⟨q0,q1,q2,q3,q4,q5⟩;go_simp;try with_reducible rfl);try simp only[UU])
     refine aI rfl rfl (λK hK=>?_);go_simp;refine hK _ _ (λ_=>⟨aJ s0,aJ s1,aJ s2,aJ d0,aJ d1,aJ d2⟩) ?_;clear hK K;try simp only[UU]
     refine bO (λw6=>ak w6 (wc.heap.size) 30 [.bool (ar (dN D)),.string (bs (nt (dN D).natAbs)),.int .i64 (dE D),.bool (ar (dN D)),.string (bs (nt (dN D).natAbs)),.int .i64 (dE D)]/\Bw wc w6) (by first|exact dU|exact dV) ?_;rintro w6 ⟨YF,ae⟩;clear r0 r1 r2 s0 bW s1 bX s2 cJ d0 d1 d2;have apU:=Hr.out.lt;have apY:=Hs.out.lt;have apt:=Hd.out.lt;replace Hr:=kB Hr ae;replace Hs:=kB Hs ae;replace Hd:=kB Hd ae;replace cV:=kT cV ae;have mr:=ah YF;clear YF;obtain⟨r0,r1,r2⟩:=Hr.out.c3;obtain⟨s0,bW,s1,bX,s2,cJ⟩:=Hs.out.g3;obtain⟨d0,d1,d2⟩:=Hd.out.c3;obtain⟨vL,vM,vN,sk,su,m15⟩:=mr.out.c6;replace Hb:=az Hb ae;clear ae;refine aI rfl rfl (λK hK=>?_);go_simp;with_reducible refine(Cx _ _ _ _ _ _ E (B+1) HmE.out _ 2 _ _ Fj.out Fj.out zo mr.out (by first|exact cV.out|exact aF.drew cV.out|exact aF.alloc cV.out _|exact aF.drew (aF.alloc cV.out _) |exact aF.alloc (aF.drew cV.out) _)).mono ?_
     rintro e w7 ⟨rfl,hq⟩;have ae:Bw w6 w7:=by first|exact hq|exact aV hq
     clear r0 r1 r2 s0 bW s1 bX s2 cJ d0 d1 d2 vL vM vN sk su m15;replace Hr:=kB Hr ae;replace Hs:=kB Hs ae;replace Hd:=kB Hd ae;replace cV:=kT cV ae;replace mr:=kB mr ae;obtain⟨r0,r1,r2⟩:=Hr.out.c3;obtain⟨s0,bW,s1,bX,s2,cJ⟩:=Hs.out.g3;obtain⟨d0,d1,d2⟩:=Hd.out.c3;obtain⟨vL,vM,vN,sk,su,m15⟩:=mr.out.c6;replace Hb:=az Hb ae;clear ae;refine hK _ _ (λ_=>⟨s0,s1,s2,d0,d1,d2⟩) ?_;clear hK K;try simp only[UU]
     refine aI rfl rfl (λK hK=>?_);go_simp;refine hK _ _ (λ_=>⟨aJ s0,aJ s1,aJ s2,aJ d0,aJ d1,aJ d2⟩) ?_;clear hK K;try simp only[UU]
     refine bO (λw8=>ak w8 (w7.heap.size) 30 [.bool (ar (dN X)),.string (bs (nt (dN X).natAbs)),.int .i64 (dE X),.bool (ar (dN E)),.string (bs (nt (dN E).natAbs)),.int .i64 (dE E)]/\Bw w7 w8) (by first|exact dU|exact dV) ?_;rintro w8 ⟨YG,ae⟩;clear r0 r1 r2 s0 bW s1 bX s2 cJ d0 d1 d2 vL vM vN sk su m15;have apV:=Hr.out.lt;have apZ:=Hs.out.lt;have apu:=Hd.out.lt;have apG:=mr.out.lt;replace Hr:=kB Hr ae;replace Hs:=kB Hs ae;replace Hd:=kB Hd ae;replace cV:=kT cV ae;replace mr:=kB mr ae;have uE:=ah YG;clear YG;obtain⟨r0,r1,r2⟩:=Hr.out.c3;obtain⟨s0,bW,s1,bX,s2,cJ⟩:=Hs.out.g3;obtain⟨d0,d1,d2⟩:=Hd.out.c3;obtain⟨vL,vM,vN,sk,su,m15⟩:=mr.out.c6;obtain⟨IG,IH,II,IJ,IK,IL⟩:=uE.out.c6;replace Hb:=az Hb ae;clear ae;refine aI rfl rfl (λK hK=>?_);go_simp;with_reducible refine(Cw _ _ _ _ _ _ Y (2*B+10) HaY.out _ 2 _ _ HfX.out HfE.out zo uE.out (by first|exact cV.out|exact aF.drew cV.out|exact aF.alloc cV.out _|exact aF.drew (aF.alloc cV.out _) |exact aF.alloc (aF.drew cV.out) _)).mono ?_
     rintro e w9 ⟨rfl,hq⟩;have ae:Bw w8 w9:=by first|exact hq|exact aV hq
     clear r0 r1 r2 s0 bW s1 bX s2 cJ d0 d1 d2 vL vM vN sk su m15 IG IH II IJ IK IL;replace Hr:=kB Hr ae;replace Hs:=kB Hs ae;replace Hd:=kB Hd ae;replace cV:=kT cV ae;replace mr:=kB mr ae;replace uE:=kB uE ae;obtain⟨r0,r1,r2⟩:=Hr.out.c3;obtain⟨s0,bW,s1,bX,s2,cJ⟩:=Hs.out.g3;obtain⟨d0,d1,d2⟩:=Hd.out.c3;obtain⟨vL,vM,vN,sk,su,m15⟩:=mr.out.c6;obtain⟨IG,IH,II,IJ,IK,IL⟩:=uE.out.c6;replace Hb:=az Hb ae;clear ae;refine hK _ _ (λ_=>⟨s0,s1,s2,d0,d1,d2⟩) ?_;clear hK K;try simp only[UU]
     refine aI rfl rfl (λK hK=>?_);go_simp;refine hK _ _ (λh=>absurd h zd) ?_;clear hK K;try simp only[UU]
     clear r0 r1 r2 s0 bW s1 bX s2 cJ d0 d1 d2 vL vM vN sk su m15 IG IH II IJ IK IL;refine bO (bK w9 (w.heap.size+1) 0 [.bool (ar (dN Y)),.string (bs (nt (dN Y).natAbs)),.int .i64 (dE Y)]) bV ?_;intro fI hs;replace Hr:=kS Hr hs zo;replace Hs:=cF Hs hs;replace Hd:=kS Hd hs zo;replace mr:=kS mr hs zo;replace uE:=kS uE hs zo;obtain⟨r0,r1,r2⟩:=Hr.out.c3;obtain⟨s0,bW,s1,bX,s2,cJ⟩:=Hs.out.g3;obtain⟨d0,d1,d2⟩:=Hd.out.c3;obtain⟨vL,vM,vN,sk,su,m15⟩:=mr.out.c6;obtain⟨IG,IH,II,IJ,IK,IL⟩:=uE.out.c6;replace Hb:=bS Hb hs ZS;clear hs;simp only[aZ];go_wp2;go_roundw;case rel=>exact⟨k+1,Y,by omega,by go_num,cE.out,Hr.out,Hs.out,Hb.out⟩
     case measure=>simp[intOf];omega
  . obtain rfl:k=n:=by omega
    have Hr:=ah pr;have Hs:Hid (ak wr (w.heap.size+1) 30 [.bool (ar (dN X)),.string (bs (nt (dN X).natAbs)),.int .i64 (dE X)]):=ps;have HX:=ah hX;replace Hb:=ah pb;clear pr ps pb hX;obtain⟨r0,ai,r1,aj,r2,aG⟩:=Hr.out.g3;obtain⟨s0,s1,s2⟩:=Hs.out.c3;go_wp2;clear r0 ai r1 aj r2 aG s0 s1 s2;refine fy (bK wr (w.heap.size) 0 [.bool (ar (dN X)),.string (bs (nt (dN X).natAbs)),.int .i64 (dE X)]) bV ?_;intro w9 hs;replace Hr:=cF Hr hs;replace Hs:=kS Hs hs zo;obtain⟨r0,ai,r1,aj,r2,aG⟩:=Hr.out.g3;obtain⟨s0,s1,s2⟩:=Hs.out.c3;replace Hb:=bS Hb hs ZS;clear hs;refine bodyPost_ret (v:=bH X) (by simp[results,Tryz.results89,go_sem,r0,r1,r2]) rfl ⟨by rw[HX.out],Hb.out⟩
end Go.Proofs.YtdaadlblknpipaaGreatDoor
