/- Small facts that many walks share: numbers in memory,windows,own rows. -/
import Derived.Test.YtnjfebkelecgaaaGreatDoorZ7
import Derived.Test.YtnjfebkelecgaaaGreatDoorZ9
import Derived.Test.YtnjfebkelecgaaaGreatDoorZ10
import Derived.Carry
import Derived.Maps.AppendAt
import Derived.Maps.OwnIn
import Derived.Maps.Own
import Derived.Maps.Views
import Derived.Maps.Keyed
import Derived.Maps.OwnSet
import Derived.Shelf.Abstract
import Derived.Shelf.RegionOpen
import Derived.OwnWalkIn
import Derived.TacticsInMore
import Derived.LoopNIn
import Derived.LoopIn
import Derived.Lib.BufferWrite
import Derived.Deep.WholeRow
import Derived.Test.YtnjfebkelecgaaaGreatDoorZ1
import Derived.Test.YtnjfebkelecgaaaGreatDoorZ6
set_option linter.all false
set_option maxRecDepth 100000
set_option maxHeartbeats 16000000
namespace Go.Proofs.YtnjfebkelecgaaaGreatDoor
open Go.RowKit
attribute [local go_sem ↓] Go.wp_at_zero Go.wp_at_succ
def hp (k:Nat):Dyadic:=Dyadic.ofIntWithPrec 1 k
def Tryz.aCm :(Tryz.prog.info? 48).map (λi=>(i.zero,i.size,i.bytes))=some (some (.agg #[aj false,.string (bs []),ah 0]),3,32):=by kernel_rfl
def dC (ds:List Dyadic):List Value:=ds.flatMap λd=>bK (canon d)
def Mm (ds:List Dyadic):(dC ds).length=ds.length*3:=nU _ 3 (λ_=>rfl) ds
def Dn (a b:List Dyadic):dC (a++b)=dC a++dC b:=by unfold dC;rw[List.flatMap_append]
def afQ (n:Nat):madeCells (Value.agg #[aj false,.string (bs []),ah 0]).cells (n*3)=(dC (List.replicate n 0)).toArray:=by
 have h:∀n,(List.range (n*3)).map (λi=>(Value.agg #[aj false,.string (bs []),ah 0]).cells[i%3]!)=dC (List.replicate n 0):=by
  intro n;induction n with
  |zero=>rfl
  |succ n ih=>rw[show(n+1) *3=n*3+1+1+1 by omega,List.range_succ,List.range_succ,List.range_succ,List.map_append,List.map_append,List.map_append,ih,List.replicate_succ',Dn];simp only[List.map_cons,List.map_nil,List.append_assoc];rw[show n*3%3=0 by omega,show(n*3+1)%3=1 by omega,show(n*3+1+1)%3=2 by omega];rfl
 apply Array.ext';rw[<-h n];simp[madeCells];intro a _;rfl
def atk (c:Int)(n:Nat)(hc:c=n)(h:n<=1048576)(w:World):
 (Instr.makeSlice 32 (ah c) (ah c)).run Tryz.prog w=.ok (.slice (some ⟨w.heap.size,0,none⟩) n n) (w.alloc (.cells (dC (List.replicate n 0)).toArray 48)):=by
 subst hc;obtain⟨i0,hi,hz0,hz1,hz2⟩:=info_parts Tryz.aCm;rw[run_make (P:=Tryz.prog) w 32 48 i0 _ Tryz.underlying32 hi hz0 .i64 .i64 n n zo zo (by rw[hz2];omega) zo];simp only[Int.toNat_natCast,hz1];rw[afQ]
def Ez {Y:Nat->Prop}{W W':World}{base:Nat}{e:TypeId}{size:Nat}{v:Value}{n:Nat}{xs:List Value}(h:W.ownsRow base e size v n xs)(hc:Chg Y W W')(hy:∀b,v.ownBlock=some b->¬Y b):W'.ownsRow base e size v n xs:=by
 refine⟨h.1,?_⟩;rcases h.2 with h1|⟨g,cap,cur,rfl,hb,hg,h2,h3,h4,h5⟩
 . exact .inl h1
 . exact .inr ⟨g,cap,cur,rfl,hb,(hc.block g (Array.getElem?_eq_some_iff.1 hg).1 (hy g rfl)).trans hg,h2,h3,h4,h5⟩
def dm {W:World}{base:Nat}{e:TypeId}{size:Nat}{v:Value}{n:Nat}{xs:List Value}(h:W.ownsRow base e size v n xs):∃a cap,v=.slice a n cap/\At W a xs/\∀b o,a=some ⟨b,o,none⟩->base<=b:=by
 rcases h.2 with⟨rfl,rfl⟩ |⟨g,cap,cur,rfl,hb,hg,h2,h3,h4,h5⟩
 . refine⟨none,0,rfl,.inl ?_,λb o e=>by cases e⟩;have:=h.1;simpa using this
 . refine⟨_,cap,rfl,.inr ⟨g,0,rfl,λj hj=>?_⟩,λb o e=>by cases e;exact hb⟩;have:=h.cells (g:=g) rfl j (xs[j]) (by simp[hj]);rw[Nat.zero_add];have e2:((⟨g,0,none⟩:Addr).add j)=⟨g,j,none⟩:=by simp[Addr.add];omega
   rw[e2]at this;rw[this];simp[hj]
def bA (w:World)(b o:Nat)(cs:List Value):Prop:=∀j (h:j<cs.length),w.cell? ⟨b,o+j,none⟩=some cs[j]
def bA.cell {w:World}{b o:Nat}{cs:List Value}(h:bA w b o cs)(j:Nat)(hj:j<cs.length):w.cell? ⟨b,o+j,none⟩=some cs[j]:=h j hj
def bA.w1 {w:World}{b o:Nat}{x0:Value}(h:bA w b o [x0]):w.cell? ⟨b,o,none⟩=some x0:=h 0 zm
def bA.w2 {w:World}{b o:Nat}{x0 x1:Value}(h:bA w b o [x0,x1]):w.cell? ⟨b,o,none⟩=some x0/\w.cell? ⟨b,o+1,none⟩=some x1:=⟨h 0 zm,h 1 zm⟩
def bA.w3 {w:World}{b o:Nat}{x0 x1 x2:Value}(h:bA w b o [x0,x1,x2]):w.cell? ⟨b,o,none⟩=some x0/\w.cell? ⟨b,o+1,none⟩=some x1/\w.cell? ⟨b,o+2,none⟩=some x2:=⟨h 0 zm,h 1 zm,h 2 zm⟩
def bA.w4 {w:World}{b o:Nat}{x0 x1 x2 x3:Value}(h:bA w b o [x0,x1,x2,x3]):w.cell? ⟨b,o,none⟩=some x0/\w.cell? ⟨b,o+1,none⟩=some x1/\w.cell? ⟨b,o+2,none⟩=some x2/\w.cell? ⟨b,o+3,none⟩=some x3:=⟨h 0 zm,h 1 zm,h 2 zm,h 3 zm⟩
def bA.below {w w':World}{b o:Nat}{cs:List Value}(h:bA w b o cs)(hb:Bw w w'):bA w' b o cs:=λj hj=>cell_later hb (h j hj)
instance {w :World} {b o:Nat} {cs:List Value}:QTr (bA w b o cs) w (λW=>bA W b o cs):=⟨λh _ k=>bA.below h k⟩
instance {w :World} {b o:Nat} {x:Value}:QCe (bA w b o [x]) (w.cell? ⟨b,o,none⟩=some x):=⟨λh=>h.w1⟩
instance {w :World} {b o:Nat} {x y:Value}:QCe (bA w b o [x,y]) (w.cell? ⟨b,o,none⟩=some x/\w.cell? ⟨b,o+1,none⟩=some y):=⟨λh=>h.w2⟩
instance {w :World} {b o:Nat} {x y z:Value}:QCe (bA w b o [x,y,z]) (w.cell? ⟨b,o,none⟩=some x/\w.cell? ⟨b,o+1,none⟩=some y/\w.cell? ⟨b,o+2,none⟩=some z):=⟨λh=>h.w3⟩
instance {w :World} {b o:Nat} {x y z u:Value}:QCe (bA w b o [x,y,z,u]) (w.cell? ⟨b,o,none⟩=some x/\w.cell? ⟨b,o+1,none⟩=some y/\w.cell? ⟨b,o+2,none⟩=some z/\w.cell? ⟨b,o+3,none⟩=some u):=⟨λh=>h.w4⟩
def kW {w w':World}{b o:Nat}{cs:List Value}(h:Hid (bA w b o cs))(k:Bw w w'):Hid (bA w' b o cs):=h.out.below k
def bA.aCj {w:World}{b o:Nat}{cs:List Value}(h:bA w b o cs)(a:Addr)(hne:b≠a.block)(u:Value):bA (w.setCell a u) b o cs:=λj hj=>gN hne (h j hj)
def kSx {w w':World}{b c p o:Nat}{cs vs:List Value}(h:Hid (bA w b c cs))(k:bG w p o vs w')(n:p≠b):Hid (bA w' b c cs):=by
 have g:∀(vs:List Value) (o:Nat) (w:World),bA w b c cs->bA (xQ p o vs w) b c cs:=by
  intro vs;induction vs with
  |nil=>intro o w h;exact h
  |cons v vs ih=>intro o w h;exact ih _ _ (bA.aCj h ⟨p,o,none⟩ (λe=>n e.symm) v)
 rcases k with rfl|rfl
 . exact g vs o _ h.out
 . exact g vs o w.drew h.out
instance {w :World} {b c k o:Nat} {cs vs:List Value}:QSto (bA w c k cs) w b o vs (λW=>bA W c k cs) (b≠c):=⟨λh _ g n=>(kSx (az h) g n).out⟩
def bA.num {w:World}{b:Nat}{t:TypeId}{ds:List Dyadic}(h:aH w b t (dC ds))(i:Nat)(hi:i<ds.length):bA w b (i*3) [aj (aK (dN ds[i])),ai (nt (dN ds[i]).natAbs),ah (dE ds[i])]:=by
 intro j hj;have Nz:j<3:=hj;rw[h.cell];have:=flat_get (λd=>bK (canon d)) 3 (λ_=>rfl) ds i j hi Nz;unfold dC;rw[this];rcases j with _|_|_|j
 . rfl
 . rfl
 . rfl
 . omega
def Sn (ds:List Dyadic)(i:Nat)(D:Dyadic):(((dC ds).set (i*3) (aj (aK (dN D)))).set (i*3+1) (ai (nt (dN D).natAbs))).set (i*3+2) (ah (dE D))=dC (ds.set i D):=by
 induction ds generalizing i with
 |nil=>simp[dC]
 | cons x ds ih=>
   have e:∀y:Dyadic,∀zs,dC (y::zs)=aj (aK (dN y))::ai (nt (dN y).natAbs)::ah (dE y)::dC zs:=λy zs=>rfl;cases i with
   |zero=>rw[e];rfl
   |succ i=>rw[List.set_cons_succ,e,e,<-ih i,show(i+1) *3=i*3+1+1+1 by omega];rfl
def aR.lt {w:World}(h:aR w):0<w.heap.size:=World.block_lt_of_cell? w _ (h 0 zd)
def sk (ds:List Dyadic):dC ds=(ds.map canon).flatMap bK:=by unfold dC;rw[List.flatMap_map]
def eH {P:Program}{fn:Func}{R:Ending->World->Prop}{e:Exit}{a:Act}{W:World}(S:World->Prop)(hS:S W)(h:∀W',S W'->bodyPost P fn R e a W'):bodyPost P fn R e a W:=h W hS
def aH.not_row {W:World}{B:Nat}{t e:TypeId}{cs:List Value}(h:aH W B t cs)(hte:t≠e){base size k:Nat}{v:Value}{xs:List Value}(hr:W.ownsRow base e size v k xs):some B≠v.ownBlock:=by
 rcases hr.2 with⟨rfl,_⟩ |⟨g,cap,cur,rfl,_,hgb,_⟩
 . simp[Value.ownBlock]
 . intro e';simp only[Value.ownBlock,Option.some.injEq]at e';subst e';have:=h.symm.trans hgb;simp at this;exact hte this.2
def aH.row {W W':World}{B:Nat}{t e:TypeId}{cs:List Value}(h:aH W B t cs)(hte:t≠e){base size k:Nat}{v:Value}{xs:List Value}(hr:W.ownsRow base e size v k xs)(hg:W.grownBy W' v.ownBlock):aH W' B t cs:=
 h.grown hg (h.not_row hte hr)
def ownsRow_below {W W':World}{base:Nat}{e:TypeId}{size:Nat}{v:Value}{n:Nat}{xs:List Value}(h:W.ownsRow base e size v n xs)(hb:Bw W W'):W'.ownsRow base e size v n xs:=by refine Ez (Y:=λ_=>False) h (Chg.of_below hb) (λ_ _ h=>h)
def dz {W:World}{base:Nat}{e:TypeId}{size:Nat}{v:Value}{n:Nat}{xs:List Value}(h:W.ownsRow base e size v n xs):∀k,v.ownBlock=some k->base<=k:=λk hk=>(h.lt k hk).1
def iR {w:World}{b o:Nat}{x y z:Value}(h0:w.cell? ⟨b,o,none⟩=some x)(h1:w.cell? ⟨b,o+1,none⟩=some y)(h2:w.cell? ⟨b,o+2,none⟩=some z):bA w b o [x,y,z]:=by
 intro j hj;rcases j with _|_|_|j
 . exact h0
 . exact h1
 . exact h2
 . simp at hj;omega
def gK {W:World}{b:Nat}{t:TypeId}{cs:List Value}(h:aH W b t cs):∀j u,cs[j]?=some u->W.cell? ((⟨b,0,none⟩:Addr).add j)=some u:=by
 intro j u hj;have e2:((⟨b,0,none⟩:Addr).add j)=⟨b,j,none⟩:=by simp[Addr.add];omega
 rw[e2,h.cell];exact hj
def At.num {W:World}{a:Option Addr}{cd:List Raw}(h:At W a (cd.flatMap bK))(k:Nat)(hk:k<cd.length){s:Bool}{m:List UInt8}{e:Int}(hx:cd[k]=(s,m,e)):
 ∃b o,a=some ⟨b,o,none⟩/\W.cell? ⟨b,o+k*3,none⟩=some (aj s)/\W.cell? ⟨b,o+k*3+1,none⟩=some (ai m)/\W.cell? ⟨b,o+k*3+2,none⟩=some (ah e):=by
 obtain⟨b,o,ha,hc⟩:=h.elem (f:=bK) (sz:=3) (λ_=>rfl) zd k hk;rw[hx]at hc;exact⟨b,o,ha,by simpa[bK]using hc 0 zd,by simpa[bK]using hc 1 zd,by simpa[bK]using hc 2 zd⟩
def sA {B:Nat}{cs:List Dyadic}(h:∀c∈cs,Sm B c)(k:Nat):Sm B (cs.getD k 0):=by
 by_cases hk:k<cs.length
 . have:cs.getD k 0=cs[k]:=by simp[hk]
   rw[this];exact h _ (List.getElem_mem hk)
 . have:cs.getD k 0=0:=by simp[List.getD_eq_getElem?_getD,List.getElem?_eq_none (by omega:cs.length<=k)]
   rw[this];exact Sm.zero B
def idxFrom (p:Value->Bool):List Value->Nat->Int
 |[],_=>-1
 |v::l,k=>if p v then(k:Int)else idxFrom p l (k+1)
def Vu (p:Value->Bool)(l:List Value)(k n:Nat)(h:n<l.length):idxFrom p (l.drop n) k=if p l[n]then(k:Int)else idxFrom p (l.drop (n+1)) (k+1):=by rw[List.drop_eq_getElem_cons h];rfl
def afc (p:Value->Bool)(l:List Value)(k:Nat):decide (0<=idxFrom p l k)=l.any p:=by
 induction l generalizing k with
 |nil=>rfl
 | cons v l ih=>
   unfold idxFrom;rw[List.any_cons];by_cases h:p v=true
   . rw[if_pos h,h,Bool.true_or];simp
   . rw[if_neg h,ih];simp[h]
def ar0 (a:Option Addr)(n cap:Nat)(vals:List Value)(gf:Nat)(lb:Array Value)(p:Value->Bool)(w:World)(hn:vals.length=n)(hl:n<=1099511627776)(ha:At w a vals)
 (eg:∀args w,(callFunc gf args).run Tryz.prog w=.ok (.enter gf args) w)
 (hcl:∀v∈vals,∀W,Bw w W->Cl gf (#[v]++lb) W λe w'=>e=.returned (aj (p v))/\Bw W w'):
 Cv 147 #[.slice a n cap,.func (.func gf) #[] lb] w (ah (idxFrom p vals 0)):=by
 obtain⟨Hn,Ha,gD,tv⟩:=dP hn ha hcl eg;clear hn ha hcl eg;have Hb:=hbz w;go_enter Tryz.func147,Tryz.ntmps147;go_wp2_with fail;go_loopw[5,8] (λ_ i wr=>∃k:Nat,k<=n/\i=ah (k:Int)/\idxFrom p vals 0=idxFrom p (vals.drop k) k/\Bw w wr) (λ_ i _=>n-(intOf i).toNat);case atStart=>exact⟨0,Nat.zero_le _,rfl,rfl,Hb.out⟩
 case round=>
  clear Hb;obtain⟨k,hk,rfl,iA,pb⟩:=hrel;obtain⟨pQ,Hb⟩:=aU iA pb;clear iA pb;by_cases hlt:k<n
  . have bj:k<vals.length:=by rw[Hn.out];exact hlt
    obtain⟨b,o,hab,hcs⟩:=(Ha.out.below Hb.out).get (by intro h;rw[h]at bj;simp at bj);obtain⟨v,hv⟩:=aI (vals[k]);have hc0:wr.cell? ⟨b,o+k,none⟩=some v:=by rw[hcs k bj,List.getElem?_eq_getElem bj,hv]
    have bC:=rJ n cap k (k:Int) hab hlt rfl;rw[Nat.mul_one]at bC;have hcall:=gD.out v (by rw[<-hv];exact List.getElem_mem bj) wr Hb.out;have hstep:=Vu p vals k k bj;rw[hv,<-pQ.out]at hstep;obtain⟨kO,rc⟩:=aU hstep hcall;have vZ:=tv.out;clear hcs hab hv hstep hcall;go_wp2_with fail;refine rc.out.mono ?_;rintro e w1 ⟨rfl,hb1⟩;replace Hb:=az (aO Hb.out hb1);clear hb1 hc0 bC vZ;obtain⟨t,ht⟩:=aI (p v);rw[ht]at kO⊢;clear ht;cases t with
    |true=>go_wp2;refine bodyPost_ret (results_tmp rfl _ _ _) rfl ⟨?_,Hb.out⟩;have h:=kO.out;rw[if_pos (by trivial)]at h;rw[h];rfl
    | false=>
      go_wp2;go_roundw;case rel=>exact⟨k+1,by omega,by go_num,by have h:=kO.out;rw[if_neg zd]at h;exact h,Hb.out⟩
      case measure=>exact bH
  . obtain rfl:k=n:=by omega
    go_wp2;refine bodyPost_ret (results_tmp rfl _ _ _) rfl ⟨?_,Hb.out⟩;have h:=pQ.out;rw[List.drop_of_length_le (by rw[Hn.out];exact Nat.le_refl _)]at h;rw[h];rfl
def aow (a:Option Addr)(n cap:Nat)(vals:List Value)(gf:Nat)(lb:Array Value)(p:Value->Bool)(w:World)(hn:vals.length=n)(hl:n<=1099511627776)(ha:At w a vals)
 (eg:∀args w,(callFunc gf args).run Tryz.prog w=.ok (.enter gf args) w)
 (hcl:∀v∈vals,∀W,Bw w W->Cl gf (#[v]++lb) W λe w'=>e=.returned (aj (p v))/\Bw W w'):
 Cv 110 #[.slice a n cap,.func (.func gf) #[] lb] w (aj (vals.any p)):=by
 have h1:=ar0 a n cap vals gf lb p w hn hl ha eg hcl;rw[<-afc p vals 0];generalize idxFrom p vals 0=i at*;have H1:=az h1;clear h1 hcl eg ha hn;have Hb:=hbz w;go_enter Tryz.func110,Tryz.ntmps110;go_wp2_with fail;refine aZ (Hb.an trivial) (H1.out) λw1 ag aC=>?_;have Hb:=ag.1;go_wp2;exact bodyPost_ret (v:=aj (decide (0<=i))) (by simp[results,Tryz.results110,go_sem,aC]) rfl ⟨rfl,dt⟩
def arZ (a:Option Addr)(n cap:Nat)(vals:List Value)(gf:Nat)(lb:Array Value)(p:Value->Bool)(w:World)(hn:vals.length=n)(hl:n<=1099511627776)(ha:At w a vals)
 (eg:∀args w,(callFunc gf args).run Tryz.prog w=.ok (.enter gf args) w)
 (hcl:∀v∈vals,∀W,Bw w W->Cl gf (#[v]++lb) W λe w'=>e=.returned (aj (p v))/\Bw W w'):
 Cv 179 #[.slice a n cap,.func (.func gf) #[] lb] w (ah (idxFrom p vals 0)):=by
 obtain⟨Hn,Ha,gD,tv⟩:=dP hn ha hcl eg;clear hn ha hcl eg;have Hb:=hbz w;go_enter Tryz.func179,Tryz.ntmps179;go_wp2_with fail;go_loopw[5,8] (λ_ i wr=>∃k:Nat,k<=n/\i=ah (k:Int)/\idxFrom p vals 0=idxFrom p (vals.drop k) k/\Bw w wr) (λ_ i _=>n-(intOf i).toNat);case atStart=>exact⟨0,Nat.zero_le _,rfl,rfl,Hb.out⟩
 case round=>
  clear Hb;obtain⟨k,hk,rfl,iA,pb⟩:=hrel;obtain⟨pQ,Hb⟩:=aU iA pb;clear iA pb;by_cases hlt:k<n
  . have bj:k<vals.length:=by rw[Hn.out];exact hlt
    obtain⟨b,o,hab,hcs⟩:=(Ha.out.below Hb.out).get (by intro h;rw[h]at bj;simp at bj);obtain⟨v,hv⟩:=aI (vals[k]);have hc0:wr.cell? ⟨b,o+k,none⟩=some v:=by rw[hcs k bj,List.getElem?_eq_getElem bj,hv]
    have bC:=xz n cap k (k:Int) hab hlt rfl;rw[Nat.mul_one]at bC;have hcall:=gD.out v (by rw[<-hv];exact List.getElem_mem bj) wr Hb.out;have hstep:=Vu p vals k k bj;rw[hv,<-pQ.out]at hstep;obtain⟨kO,rc⟩:=aU hstep hcall;have vZ:=tv.out;clear hcs hab hv hstep hcall;go_wp2_with fail;refine rc.out.mono ?_;rintro e w1 ⟨rfl,hb1⟩;replace Hb:=az (aO Hb.out hb1);clear hb1 hc0 bC vZ;obtain⟨t,ht⟩:=aI (p v);rw[ht]at kO⊢;clear ht;cases t with
    |true=>go_wp2;refine bodyPost_ret (results_tmp rfl _ _ _) rfl ⟨?_,Hb.out⟩;have h:=kO.out;rw[if_pos (by trivial)]at h;rw[h];rfl
    | false=>
      go_wp2;go_roundw;case rel=>exact⟨k+1,by omega,by go_num,by have h:=kO.out;rw[if_neg zd]at h;exact h,Hb.out⟩
      case measure=>exact bH
  . obtain rfl:k=n:=by omega
    go_wp2;refine bodyPost_ret (results_tmp rfl _ _ _) rfl ⟨?_,Hb.out⟩;have h:=pQ.out;rw[List.drop_of_length_le (by rw[Hn.out];exact Nat.le_refl _)]at h;rw[h];rfl
def aov (a:Option Addr)(n cap:Nat)(vals:List Value)(gf:Nat)(lb:Array Value)(p:Value->Bool)(w:World)(hn:vals.length=n)(hl:n<=1099511627776)(ha:At w a vals)
 (eg:∀args w,(callFunc gf args).run Tryz.prog w=.ok (.enter gf args) w)
 (hcl:∀v∈vals,∀W,Bw w W->Cl gf (#[v]++lb) W λe w'=>e=.returned (aj (p v))/\Bw W w'):
 Cv 148 #[.slice a n cap,.func (.func gf) #[] lb] w (aj (vals.any p)):=by
 have h1:=arZ a n cap vals gf lb p w hn hl ha eg hcl;rw[<-afc p vals 0];generalize idxFrom p vals 0=i at*;have H1:=az h1;clear h1 hcl eg ha hn;have Hb:=hbz w;go_enter Tryz.func148,Tryz.ntmps148;go_wp2_with fail;refine aZ (Hb.an trivial) (H1.out) λw1 ag aC=>?_;have Hb:=ag.1;go_wp2;exact bodyPost_ret (v:=aj (decide (0<=i))) (by simp[results,Tryz.results148,go_sem,aC]) rfl ⟨rfl,dt⟩
def arY (a:Option Addr)(n cap:Nat)(vals:List Value)(gf:Nat)(lb:Array Value)(p:Value->Bool)(w:World)(hn:vals.length=n)(hl:n<=1099511627776)(ha:At w a vals)
 (eg:∀args w,(callFunc gf args).run Tryz.prog w=.ok (.enter gf args) w)
 (hcl:∀v∈vals,∀W,Bw w W->Cl gf (#[v]++lb) W λe w'=>e=.returned (aj (p v))/\Bw W w'):
 Cv 150 #[.slice a n cap,.func (.func gf) #[] lb] w (ah (idxFrom p vals 0)):=by
 obtain⟨Hn,Ha,gD,tv⟩:=dP hn ha hcl eg;clear hn ha hcl eg;have Hb:=hbz w;go_enter Tryz.func150,Tryz.ntmps150;go_wp2_with fail;go_loopw[5,8] (λ_ i wr=>∃k:Nat,k<=n/\i=ah (k:Int)/\idxFrom p vals 0=idxFrom p (vals.drop k) k/\Bw w wr) (λ_ i _=>n-(intOf i).toNat);case atStart=>exact⟨0,Nat.zero_le _,rfl,rfl,Hb.out⟩
 case round=>
  clear Hb;obtain⟨k,hk,rfl,iA,pb⟩:=hrel;obtain⟨pQ,Hb⟩:=aU iA pb;clear iA pb;by_cases hlt:k<n
  . have bj:k<vals.length:=by rw[Hn.out];exact hlt
    obtain⟨b,o,hab,hcs⟩:=(Ha.out.below Hb.out).get (by intro h;rw[h]at bj;simp at bj);obtain⟨v,hv⟩:=aI (vals[k]);have hc0:wr.cell? ⟨b,o+k,none⟩=some v:=by rw[hcs k bj,List.getElem?_eq_getElem bj,hv]
    have bC:=Ej n cap k (k:Int) hab hlt rfl;rw[Nat.mul_one]at bC;have hcall:=gD.out v (by rw[<-hv];exact List.getElem_mem bj) wr Hb.out;have hstep:=Vu p vals k k bj;rw[hv,<-pQ.out]at hstep;obtain⟨kO,rc⟩:=aU hstep hcall;have vZ:=tv.out;clear hcs hab hv hstep hcall;go_wp2_with fail;refine rc.out.mono ?_;rintro e w1 ⟨rfl,hb1⟩;replace Hb:=az (aO Hb.out hb1);clear hb1 hc0 bC vZ;obtain⟨t,ht⟩:=aI (p v);rw[ht]at kO⊢;clear ht;cases t with
    |true=>go_wp2;refine bodyPost_ret (results_tmp rfl _ _ _) rfl ⟨?_,Hb.out⟩;have h:=kO.out;rw[if_pos (by trivial)]at h;rw[h];rfl
    | false=>
      go_wp2;go_roundw;case rel=>exact⟨k+1,by omega,by go_num,by have h:=kO.out;rw[if_neg zd]at h;exact h,Hb.out⟩
      case measure=>exact bH
  . obtain rfl:k=n:=by omega
    go_wp2;refine bodyPost_ret (results_tmp rfl _ _ _) rfl ⟨?_,Hb.out⟩;have h:=pQ.out;rw[List.drop_of_length_le (by rw[Hn.out];exact Nat.le_refl _)]at h;rw[h];rfl
def Pt (w:World)(v:Value)(cd:List Raw):Prop:=∃a cap,v=.slice a cd.length cap/\At w a (cd.flatMap bK)
def Pt.below {w w':World}{v:Value}{cd:List Raw}(h:Pt w v cd)(hb:Bw w w'):Pt w' v cd:=
 let ⟨a,cap,hv,ha⟩:=h;⟨a,cap,hv,ha.below hb⟩
def bQ (w:World)(a:Option Addr)(rows:List (List Raw)):Prop:=∃vals:List Value,vals.length=rows.length/\At w a vals/\∀i (h:i<rows.length) (h':i<vals.length),Pt w vals[i] rows[i]
def bQ.below {w w':World}{a:Option Addr}{rows:List (List Raw)}(h:bQ w a rows)(hb:Bw w w'):bQ w' a rows:=
 let ⟨vals,hl,ha,hp⟩:=h;⟨vals,hl,ha.below hb,λi h1 h2=>(hp i h1 h2).below hb⟩
instance {w :World} {a:Option Addr} {rows:List (List Raw)}:QTr (bQ w a rows) w (λW=>bQ W a rows):=⟨λh _ k=>bQ.below h k⟩
def bQ.row {w:World}{a:Option Addr}{rows:List (List Raw)}(h:bQ w a rows)(k:Nat)(hk:k<rows.length):
 ∃b o a' cap',a=some ⟨b,o,none⟩/\w.cell? ⟨b,o+k,none⟩=some (.slice a' rows[k].length cap')/\At w a' (rows[k].flatMap bK):=by
 obtain⟨vals,hl,ha,hp⟩:=h;have hk2:k<vals.length:=by rw[hl];exact hk
 obtain⟨b,o,hab,hcs⟩:=ha.get (by intro h0;rw[h0]at hk2;simp at hk2);obtain⟨a',cap',hv,hat⟩:=hp k hk hk2;exact⟨b,o,a',cap',hab,by rw[hcs k hk2,List.getElem?_eq_getElem hk2,hv],hat⟩
def zK :Value->Int
 | .slice _ n _=>n
 |_=>0
def Co (N:Int)(v:Value):Bool:=decide (zK v≠N)
def aaC {w:World}{vals:List Value}{rows:List (List Raw)}(N:Int)(hl:vals.length=rows.length)(hp:∀i (h:i<rows.length) (h':i<vals.length),Pt w vals[i] rows[i]):
 vals.any (Co N)=rows.any λr=>decide ((r.length:Int)≠N):=by
 induction vals generalizing rows with
 |nil=>have:rows=[]:=List.length_eq_zero_iff.1 hl.symm;subst this;rfl
 | cons v vs ih=>
   match rows,hl with
   |r::rs,hl=>have h0:=hp 0 zm zm;obtain⟨a,cap,hv,_⟩:=h0;have hv':v=.slice a r.length cap:=hv;have:=ih (rows:=rs) (by simpa using hl) (λi h h'=>hp (i+1) zi zi);rw[List.any_cons,List.any_cons,this];subst hv';rfl
def ax2 (bn:Nat)(N:Int)(a:Option Addr)(n cap:Nat)(w:World)(hN:w.cell? ⟨bn,0,none⟩=some (ah N)):
 Cv 109 #[.slice a n cap,.pointer (some ⟨bn,0,none⟩)] w (aj (Co N (.slice a n cap))):=by
 have Hb:=hbz w;go_enter Tryz.func109,Tryz.ntmps109;go_wp2;refine bodyPost_ret (results_tmp rfl _ _ _) rfl ⟨?_,Hb.out⟩;simp only[Co,zK];by_cases h:(n:Int)=N<;>simp[h]
def gA (rows:List (List Raw)):Int:=
 let n:Int:=rows.length-1
 if n<1\/8<n\/(rows.any λr=>decide ((r.length:Int)≠n))then 0 else n
def ahZ (a:Option Addr)(L cap:Nat)(rows:List (List Raw))(w:World)(hL:rows.length=L)(hl:L<=1099511627776)(ha:bQ w a rows):
 Cv 66 #[.slice a L cap] w (ah (gA rows)):=by
 obtain⟨vals,hvl,hat,hp⟩:=ha;have Bt:=λN=>aaC (w:=w) N hvl hp;have hcl:∀(bn:Nat) (W:World),W.cell? ⟨bn,0,none⟩=some (ah ((L:Int)-1))->At W a vals->Cv 110 #[.slice a L cap,.func (.func 109) #[] #[.pointer (some ⟨bn,0,none⟩)]] W (aj (rows.any λr=>decide ((r.length:Int)≠(L:Int)-1))):=by intro bn W hc hA;rw[<-Bt];refine aow a L cap vals 109 #[.pointer (some ⟨bn,0,none⟩)] (Co ((L:Int)-1)) W (by rw[hvl,hL]) hl hA (enters_of Tryz.func109 zk rfl) (λv hv W' hb=>?_);obtain⟨i,hi,rfl⟩:=List.mem_iff_getElem.1 hv;obtain⟨a',cap',e,_⟩:=hp i (by rw[<-hvl];exact hi) hi;rw[e];exact ax2 bn _ a' _ cap' W' (cell_later hb hc)
 have hv:gA rows=if(L:Int)-1<1\/8<(L:Int)-1\/(rows.any λr=>decide ((r.length:Int)≠(L:Int)-1))=true then 0 else(L:Int)-1:=by unfold gA;rw[hL]
 obtain⟨T,hT⟩:=aI (rows.any λr=>decide ((r.length:Int)≠(L:Int)-1));rw[hT]at hv;simp only[hT]at hcl;obtain⟨gD,eZ,Hv⟩:=cE hcl hat hv;obtain⟨V,hV⟩:=aI (gA rows);rw[hV]at Hv⊢;clear hcl hat hv Bt hvl hp hL hT hV;obtain⟨W,cP,ag,aC⟩:=gz w 3 [ah ((L:Int)-1)];go_enter Tryz.func66,Tryz.ntmps66;by_cases h1:(L:Int)-1<1
 . have hv:=Hv.out;rw[if_pos (.inl h1)]at hv;subst hv;have Hb:=ag.1;go_wp2;exact bodyPost_ret (v:=ah 0) (by simp[results,Tryz.results66,go_sem,aC]) rfl ⟨rfl,dt⟩
 . by_cases h2:8<(L:Int)-1
   . have hv:=Hv.out;rw[if_pos (.inr (.inl h2))]at hv;subst hv;have Hb:=ag.1;go_wp2;exact bodyPost_ret (v:=ah 0) (by simp[results,Tryz.results66,go_sem,aC]) rfl ⟨rfl,dt⟩
   . have n0:W.cell? ⟨w.heap.size,0,none⟩=some (ah ((L:Int)-1)):=ag.2.1.out.cell 0;have rc:=az (gD.out w.heap.size W n0 (eZ.out.below ag.1.out));go_wp2_with fail;refine aZ ag (rc.out) λw1 ag aC=>?_;cases T with
     |true=>have hv:=Hv.out;rw[if_pos (.inr (.inr rfl))]at hv;subst hv;have Hb:=ag.1;go_wp2;exact bodyPost_ret (v:=ah 0) (by simp[results,Tryz.results66,go_sem,aC]) rfl ⟨rfl,dt⟩
     |false=>have hv:=Hv.out;rw[if_neg (by rintro(h|h|h);omega;omega;cases h)]at hv;subst hv;have Hb:=ag.1;go_wp2;exact bodyPost_ret (v:=ah ((L:Int)-1)) (by simp[results,Tryz.results66,go_sem,aC]) rfl ⟨rfl,dt⟩
def atf (bn:Nat)(a0:Option Addr)(N c0:Nat)(a:Option Addr)(n cap:Nat)(w:World)(hN:w.cell? ⟨bn,0,none⟩=some (.slice a0 N c0)):
 Cv 149 #[.slice a n cap,.pointer (some ⟨bn,0,none⟩)] w (aj (Co (N:Int) (.slice a n cap))):=by
 have Hb:=hbz w;go_enter Tryz.func149,Tryz.ntmps149;go_wp2;refine bodyPost_ret (results_tmp rfl _ _ _) rfl ⟨?_,Hb.out⟩;simp only[Co,zK];by_cases h:(n:Int)=(N:Int)<;>simp[h]
def xG (rows:List (List Raw)):Int:=if 8<rows.length\/(rows.any λr=>decide ((r.length:Int)≠(rows.length:Int)))then 1 else 0
def VO (a:Option Addr)(L cap:Nat)(rows:List (List Raw))(w:World)(hL:rows.length=L)(hl:L<=1099511627776)(ha:bQ w a rows):
 Cv 111 #[.slice a L cap] w (ah (xG rows)):=by
 obtain⟨vals,hvl,hat,hp⟩:=ha;have Bt:=λN=>aaC (w:=w) N hvl hp;have hcl:∀(bn:Nat) (W:World),W.cell? ⟨bn,0,none⟩=some (.slice a L cap)->At W a vals->Cv 148 #[.slice a L cap,.func (.func 149) #[] #[.pointer (some ⟨bn,0,none⟩)]] W (aj (rows.any λr=>decide ((r.length:Int)≠(L:Int)))):=by intro bn W hc hA;rw[<-Bt];refine aov a L cap vals 149 #[.pointer (some ⟨bn,0,none⟩)] (Co (L:Int)) W (by rw[hvl,hL]) hl hA (enters_of Tryz.func149 zk rfl) (λv hv W' hb=>?_);obtain⟨i,hi,rfl⟩:=List.mem_iff_getElem.1 hv;obtain⟨a',cap',e,_⟩:=hp i (by rw[<-hvl];exact hi) hi;rw[e];exact atf bn a L cap a' _ cap' W' (cell_later hb hc)
 have hv:xG rows=if 8<L\/(rows.any λr=>decide ((r.length:Int)≠(L:Int)))=true then 1 else 0:=by unfold xG;rw[hL]
 obtain⟨T,hT⟩:=aI (rows.any λr=>decide ((r.length:Int)≠(L:Int)));rw[hT]at hv;simp only[hT]at hcl;obtain⟨gD,eZ,Hv⟩:=cE hcl hat hv;obtain⟨V,hV⟩:=aI (xG rows);rw[hV]at Hv⊢;clear hcl hat hv Bt hvl hp hL hT hV;obtain⟨W,cP,ag,aC⟩:=gz w 82 [.slice a L cap];go_enter Tryz.func111,Tryz.ntmps111;by_cases h1:8<L
 . have hv:=Hv.out;rw[if_pos (.inl h1)]at hv;subst hv;have h2:(8:Int)<(L:Int):=by omega
   have Hb:=ag.1;go_wp2;exact bodyPost_ret (v:=ah 1) (by simp[results,Tryz.results111,go_sem,aC]) rfl ⟨rfl,dt⟩
 . have h2:¬(8:Int)<(L:Int):=by omega
   have n0:W.cell? ⟨w.heap.size,0,none⟩=some (.slice a L cap):=ag.2.1.out.cell 0;have rc:=az (gD.out w.heap.size W n0 (eZ.out.below ag.1.out));go_wp2_with fail;refine aZ ag (rc.out) λw1 ag aC=>?_;cases T with
   |true=>have hv:=Hv.out;rw[if_pos (.inr rfl)]at hv;subst hv;have Hb:=ag.1;go_wp2;exact bodyPost_ret (v:=ah 1) (by simp[results,Tryz.results111,go_sem,aC]) rfl ⟨rfl,dt⟩
   |false=>have hv:=Hv.out;rw[if_neg (by rintro(h|h);omega;cases h)]at hv;subst hv;have Hb:=ag.1;go_wp2;exact bodyPost_ret (v:=ah 0) (by simp[results,Tryz.results111,go_sem,aC]) rfl ⟨rfl,dt⟩
def EM {rows:List (List Raw)}{n:Int}(h:gA rows=n)(h0:n≠0):1<=n/\n<=8/\(rows.length:Int)=n+1/\∀r∈rows,(r.length:Int)=n:=by
 unfold gA at h;dsimp only at h;split at h
 . exact absurd h.symm h0
 . rename_i hc
   simp only[not_or,Bool.not_eq_true,List.any_eq_false,decide_eq_true_eq,Decidable.not_not]at hc;obtain⟨h1,h2,h3⟩:=hc;refine⟨by omega,by omega,by omega,λr hr=>?_⟩;have:=h3 r hr;omega
def Pi {rows:List (List Raw)}{n:Nat}(h1:rows.length=n+1)(h2:∀r∈rows,r.length=n)(h3:1<=n)(h8:n<=8):gA rows=n:=by
 unfold gA;dsimp only;rw[if_neg]
 . omega
 . rintro(h|h|h)
   . omega
   . omega
   . rw[List.any_eq_true]at h;obtain⟨r,hr,h⟩:=h;have:=h2 r hr;simp[h1,this]at h
def At.drew {w:World}{a:Option Addr}{cs:List Value}(h:At w a cs):At w.drew a cs:=h
def At.alloc {w:World}{a:Option Addr}{cs:List Value}(h:At w a cs)(o:Obj):At (w.alloc o) a cs:=h.below zl
def Tryz.aCJ :(Tryz.prog.info? 56).map (λi=>(i.zero,i.size,i.bytes))=some (some (.slice none 0 0),1,24):=by kernel_rfl
def GK (r:List Raw):List Raw:=r.map λx=>canon (aJ x)
def apO (r:List Raw):(GK r).length=r.length:=by simp[GK]
def apN (r:List Raw):(GK r).flatMap bK=dC (r.map aJ):=by rw[sk,List.map_map];rfl
def Own2 (e:TypeId)(w:World)(base:Nat)(R:List (List Dyadic))(k:Nat)(v:Value):Prop:=
 ∃vals:List Value,vals.length=k/\w.ownsRow base e 1 v k vals/\∀i (h:i<vals.length),∃a c,vals[i]=.slice a (R.getD i []).length c/\At w a (dC (R.getD i []))/\∀b o,a=some ⟨b,o,none⟩->some b≠v.ownBlock/\b<w.heap.size
def Own2.nil (e:TypeId)(w:World)(base:Nat)(R:List (List Dyadic)):Own2 e w base R 0 (.slice none 0 0):=
 ⟨[],rfl,World.ownsRow_nil _ _ _ _,λ_ h=>absurd h (Nat.not_lt_zero _)⟩
def Own2.below {e:TypeId}{w w':World}{base k:Nat}{R:List (List Dyadic)}{v:Value}(h:Own2 e w base R k v)(hb:Bw w w'):Own2 e w' base R k v:=by obtain⟨vals,hl,ho,hi⟩:=h;refine⟨vals,hl,ownsRow_below ho hb,λi h=>?_⟩;obtain⟨a,c,h1,h2,h3⟩:=hi i h;exact⟨a,c,h1,h2.below hb,λb o e=>⟨(h3 b o e).1,Nat.lt_of_lt_of_le (h3 b o e).2 hb.size⟩⟩
def Own2.push {e:TypeId}{w w':World}{base k:Nat}{R:List (List Dyadic)}{v v':Value}{vals:List Value}(hl:vals.length=k)(hi:∀i (h:i<vals.length),∃a c,vals[i]=.slice a (R.getD i []).length c/\At w a (dC (R.getD i []))/\∀b o,a=some ⟨b,o,none⟩->some b≠v.ownBlock/\b<w.heap.size)
 {a:Option Addr} {c:Nat} (ha:At w a (dC (R.getD k []))) (hab:∀b o,a=some ⟨b,o,none⟩->some b≠v.ownBlock/\b<w.heap.size)
 (ho:w'.ownsRow base e 1 v' (k+1) (vals++[.slice a (R.getD k []).length c])) (hg:w.grownBy w' v.ownBlock) (eY:v'.ownBlock=v.ownBlock\/v'.ownBlock=some w.heap.size):Own2 e w' base R (k+1) v':=by
 have hne:∀b,some b≠v.ownBlock->b<w.heap.size->some b≠v'.ownBlock:=by
  intro b h1 h2;rcases eY with h|h
  . rw[h];exact h1
  . rw[h];intro h3;simp at h3;omega
 refine⟨_,by simp[hl],ho,λi h=>?_⟩;by_cases hk:i<vals.length
 . obtain⟨a1,c1,h1,h2,h3⟩:=hi i hk;refine⟨a1,c1,by rw[List.getElem_append_left hk];exact h1,h2.grown hg (λb o e=>(h3 b o e).1),λb o e=>⟨hne b (h3 b o e).1 (h3 b o e).2,Nat.lt_of_lt_of_le (h3 b o e).2 hg.size⟩⟩
 . have hik:i=k:=by simp at h;omega
   subst hik;refine⟨a,c,?_,ha.grown hg (λb o e=>(hab b o e).1),λb o e=>⟨hne b (hab b o e).1 (hab b o e).2,Nat.lt_of_lt_of_le (hab b o e).2 hg.size⟩⟩;rw[List.getElem_append_right zo];simp[hl]
def OA {W:World}{base:Nat}{e:TypeId}{size:Nat}{a:Option Addr}{n c:Nat}{xs:List Value}(h:W.ownsRow base e size (.slice a n c) n xs):n<=c:=by
 rcases h.2 with⟨h1,h2⟩ |⟨g,cap,cur,h1,_,_,h2,_⟩
 . omega
 . simp at h1;omega
def Own2.tbl {e:TypeId}{w:World}{base k:Nat}{R:List (List Raw)}{v:Value}(h:Own2 e w base (R.map λr=>r.map aJ) k v)(hk:R.length=k):∃a c,v=.slice a k c/\k<=c/\bQ w a (R.map GK):=by
 obtain⟨vals,hl,ho,hi⟩:=h;obtain⟨a,c,hv,hat,_⟩:=dm ho;subst hv;refine⟨a,c,rfl,OA ho,vals,by simp[hl,hk],hat,λi h1 h2=>?_⟩;obtain⟨a1,c1,e1,e2,_⟩:=hi i h2;have hi1:i<R.length:=by simpa using h1
 have eg:(R.map λr=>r.map aJ).getD i []=R[i].map aJ:=by simp[hi1]
 rw[eg]at e1 e2;refine⟨a1,c1,?_,?_⟩
 . rw[e1];simp[apO]
 . rw[List.getElem_map,apN];exact e2
def Tryz.aCq :(Tryz.prog.info? 32).map (λi=>(i.zero,i.size,i.bytes))=some (some (.slice none 0 0),1,24):=by kernel_rfl
def iY (o p:List Raw):List Dyadic:=List.zipWith (λx y=>aJ x-aJ y) p o
def Dt {o p:List Raw}(h:p.length=o.length):(iY o p).length=p.length:=by simp[iY,h]
def abf (o p:List Raw)(k:Nat)(h:k<p.length)(h':k<o.length):(iY o p).take (k+1)=(iY o p).take k++[aJ p[k]-aJ o[k]]:=by unfold iY;rw[List.take_succ_eq_append_getElem zi];simp
def Own2.aCA {e:TypeId}{w:World}{base k:Nat}{R:List (List Dyadic)}{v:Value}(h:Own2 e w base R k v)(hk:R.length=k):∃a c,v=.slice a k c/\k<=c/\bQ w a (R.map λr=>r.map canon):=by
 obtain⟨vals,hl,ho,hi⟩:=h;obtain⟨a,c,hv,hat,_⟩:=dm ho;subst hv;refine⟨a,c,rfl,OA ho,vals,by simp[hl,hk],hat,λi h1 h2=>?_⟩;obtain⟨a1,c1,e1,e2,_⟩:=hi i h2;have hi1:i<R.length:=by simpa using h1
 have eg:R.getD i []=R[i]:=by simp[hi1]
 rw[eg]at e1 e2;refine⟨a1,c1,?_,?_⟩
 . rw[e1];simp
 . rw[List.getElem_map,<-sk];exact e2
def agW (b o cap m n:Nat)(rows:List (List Raw))(B:Nat)(w:World)(hL:rows.length=m+1)(hm:m<=8)(hcap:m+1<=cap)(mn:1<=m)(hn:1<=n)(hn8:n<=8)(hrow:∀r∈rows,r.length=n)(ha:bQ w (some ⟨b,o,none⟩) rows)
 (hfit:∀r∈rows,∀c∈r,Fit B c) (hB:B<=10000000) (hT:aR w):
 Cl 68 #[.slice (some ⟨b,o,none⟩) (m+1) cap] w λe w'=>∃a' c',e=.returned (.slice a' m c')/\m<=c'/\
  bQ w' a' (((rows.drop 1).map λp=>iY (rows.getD 0 []) p).map λr=>r.map canon)/\Bw w w':=by
 obtain⟨i0,hi,hz0,hz1,hz2⟩:=info_parts Tryz.aCm;obtain⟨j0,hj,hy0,hy1,hy2⟩:=info_parts Tryz.aCq;obtain⟨S,hS⟩:=aI ((rows.drop 1).map λp=>iY (rows.getD 0 []) p);have hSL:S.length=m:=by rw[<-hS];simp[hL]
 have ni:∀k (h0:0<rows.length) (h1:k+1<rows.length),S.getD k []=iY rows[0] rows[k+1]:=by
  intro k h0 h1;subst hS;have e0:rows.getD 0 []=rows[0]:=by simp[h0]
  rw[e0];have h2:k<(rows.drop 1).length:=by simp;omega
  simp[h1]
 rw[hS];have hcell:=λ(W:World) (h:bQ W (some ⟨b,o,none⟩) rows) (k:Nat) (hk:k<rows.length)=>h.row k hk;obtain⟨Hi,cV,cW,cC,Hj,kP,lN,kj,HSL,Ap,YD,HT⟩:=fu hi hz0 hz1 hz2 hj hy0 hy1 hy2 hSL ni hcell hT;obtain⟨Ha,mO,rS,HL⟩:=dP ha hrow hfit hL;clear hi hz0 hz1 hz2 hj hy0 hy1 hy2 hS hSL ni hcell ha hT hL hrow hfit;have e1:m+1-1=m:=by omega
 have e2:¬cap=1:=by omega
 go_enter Tryz.func68,Tryz.ntmps68;have Hb:=hbz w;go_wp2_with fail;obtain⟨r0,ny⟩:=aI (rows[0]'(by rw[HL.out];omega));obtain⟨_,_,a0,c0,TI,hc0,nX⟩:=YD.out w Ha.out 0 (by rw[HL.out];omega);obtain⟨rfl,rfl⟩:b=_/\o=_:=by simp at TI;exact TI
 have hn0:r0.length=n:=by rw[<-ny];exact mO.out _ (List.getElem_mem _)
 have ui:∀x∈r0,Fit B x:=by rw[<-ny];exact rS.out _ (List.getElem_mem _)
 have sF:∀k (h1:k+1<rows.length),S.getD k []=iY r0 rows[k+1]:=λk h1=>by rw[Ap.out k zo h1,ny]
 rw[ny]at hc0 nX;rw[hn0]at hc0;rw[Nat.add_zero]at hc0;have JE:=rJ (m+1) cap 0 0 (show some (⟨b,o,none⟩:Addr)=some ⟨b,o,none⟩from rfl) zo rfl;rw[Nat.mul_one,Nat.add_zero]at JE;obtain⟨uO,td,nS,Fv,Ao⟩:=fH hc0 nX hn0 ui sF;have JJ:b<w.heap.size:=World.block_lt_of_cell? w _ hc0;clear hc0 nX hn0 ui sF ny TI Hb;go_loopw[3,11] (λs3 x wr=>∃(k:Nat) (v:Value),k<=m/\x=ah (k:Int)/\v=s3/\Own2 32 wr w.heap.size S k v/\Bw w wr) (λ_ x _=>m-(intOf x).toNat);case atStart=>exact⟨0,_,Nat.zero_le _,rfl,rfl,Own2.nil _ _ _ _,Below.refl _ _⟩
 case round=>
  obtain⟨k,v,hk,rfl,rfl,pv,pb⟩:=hrel;by_cases hlt:k<m
  . have hk2:k+1<rows.length:=by rw[HL.out];omega
    obtain⟨p,fO⟩:=aI (rows[k+1]);obtain⟨_,_,a1,c1,hab,hc1,hat⟩:=YD.out wr (Ha.out.below pb) (k+1) hk2;obtain⟨rfl,rfl⟩:b=_/\o=_:=by simp at hab;exact hab
    have ie:p.length=n:=by rw[<-fO];exact mO.out _ (List.getElem_mem hk2)
    have lh:∀x∈p,Fit B x:=by rw[<-fO];exact rS.out _ (List.getElem_mem hk2)
    have rB:=Ao.out k hk2;rw[fO]at hc1 hat rB;rw[ie]at hc1;have sI:=rJ m (cap-1) k (k:Int) (show some (⟨b,o+1,none⟩:Addr)=some ⟨b,o+1,none⟩from rfl) hlt rfl;rw[Nat.mul_one]at sI;have aqU:wr.cell? ⟨b,o+1+k,none⟩=some (.slice a1 n c1):=by rw[show o+1+k=o+(k+1)by omega];exact hc1
    obtain⟨Z,hZ⟩:=aI (iY r0 p);rw[hZ]at rB;obtain⟨eZ,lM,uR,yc,HZ,aX,eV⟩:=kH hat ie lh rB hZ pb pv;clear hat ie lh rB hZ pb pv hab fO hc1;have fQ:=aX.out.size;obtain⟨wc,hwc⟩:∃wc,wc=wr:=⟨_,rfl⟩;subst hwc;go_wp2_with fail;go_loopw[6,17] (λs6 x wr=>∃(j:Nat) (v2:Value),j<=n/\x=ah (j:Int)/\v2=s6/\wr.ownsRow wc.heap.size 48 3 v2 j (dC (Z.take j))/\Bw wc wr) (λ_ x _=>n-(intOf x).toNat);case atStart=>exact⟨0,_,Nat.zero_le _,rfl,rfl,World.ownsRow_nil _ _ _ _,Below.refl _ _⟩
    case round=>
     clear aqU;obtain⟨j,v2,hj,rfl,rfl,ho,hb2⟩:=hrel;by_cases bj:j<n
     . have k1:j<p.length:=by rw[lM.out];exact bj
       have k2:j<r0.length:=by rw[nS.out];exact bj
       obtain⟨sp,mp,ep,kF⟩:=na (p[j]);obtain⟨sq,mq,eq,xu⟩:=na (r0[j]);have ic:=uR.out _ (List.getElem_mem k1);have vC:=Fv.out _ (List.getElem_mem k2);rw[kF]at ic;rw[xu]at vC;obtain⟨X,hX⟩:=aI (aJ (sp,mp,ep)-aJ (sq,mq,eq));have ru:Hid (dC (Z.take (j+1))=dC (Z.take j)++(bY X)):=by
        show _=_
        rw[<-HZ.out,abf _ _ _ k1 k2,Dn,kF,xu,hX];rfl
       have eF:=aO aX.out hb2;obtain⟨b1,o1,kV,p0,p1,p2⟩:=(eZ.out.below hb2).num j k1 kF;obtain⟨b2,o2,gj,q0,q1,q2⟩:=(td.out.below eF).num j k2 xu;have Ur:=xy n c1 j (j:Int) kV bj rfl;have arh:=xy n c0 j (j:Int) gj bj rfl;have mo:b1<wc.heap.size:=(by subst kV;exact eZ.out.lt (by intro h0;have:=congrArg List.length h0;rw[nU bK 3 (λ_=>rfl)]at this;simp at this;omega));have lj:b2<wc.heap.size:=Nat.lt_of_lt_of_le (by subst gj;exact td.out.lt (by intro h0;have:=congrArg List.length h0;rw[nU bK 3 (λ_=>rfl)]at this;simp at this;omega)) fQ;have lbc:b<wc.heap.size:=Nat.lt_of_lt_of_le JJ fQ;have Hu:Hid (bA wr b o [.slice a0 n c0]):=λi hi=>by
        obtain rfl:i=0:=by simp at hi;omega
        exact cell_later eF uO.out
       have Hp:Hid (bA wr b1 (o1+j*3) [aj sp,ai mp,ah ep]):=iR p0 p1 p2;have Hq:Hid (bA wr b2 (o2+j*3) [aj sq,ai mq,ah eq]):=iR q0 q1 q2;obtain⟨tA,Ll,HX,Ho,vW,sY⟩:=fw ic vC hX ho hb2 (HT.out.below eF);have EJ:=hb2.size;clear ho hb2 ic vC hX kF xu kV gj p0 p1 p2 q0 q1 q2 eF;have Hb:=hbz wr;go_wp2_with fail;obtain⟨ag,aC⟩:=qZ (Hu.an<|Hp.an<|Hq.an trivial);obtain⟨Hu,Hp,Hq,_⟩:=ag;have u0:=Hu.out.w1;obtain⟨p0,p1,p2⟩:=Hp.out.w3;obtain⟨q0,q1,q2⟩:=Hq.out.w3;refine ez (λw'=>aV w' b o (.slice a0 n c0)/\aV w' b1 (o1+j*3) (aj sp)/\aV w' b1 (o1+j*3+1) (ai mp)/\aV w' b1 (o1+j*3+2) (ah ep)/\aV w' b2 (o2+j*3) (aj sq)/\aV w' b2 (o2+j*3+1) (ai mq)/\aV w' b2 (o2+j*3+2) (ah eq)) (λi=>Nat.blt i 100000) [(0,true),(1,true),(2,true),(3,true),(4,true),(5,true),(6,true),(7,true),(8,true),(9,true),(10,true),(11,false),(12,false),(13,false),(14,true)] zk zk rfl zk zc ⟨u0,p0,p1,p2,q0,q1,q2⟩ ?_;iterate 11 (refine pT rfl rfl ?_ (by intro w' ⟨q0,q1,q2,q3,q4,q5,q6⟩;go_simp;try with_reducible rfl))
       refine aY rfl rfl (λK hK=>?_);go_simp;with_reducible refine(aa7 sp mp ep sq mq eq X B HX.out _ tA.out Ll.out zo (by first|exact sY.out|exact aR.drew sY.out|exact aR.alloc sY.out _|exact aR.drew (aR.alloc sY.out _) |exact aR.alloc (aR.drew sY.out) _)).mono ?_
       rintro e w6 ⟨rfl,hq⟩;have au:Bw wr w6:=by first|exact hq|exact df hq
       replace Hu:=kW Hu au;replace Hp:=kW Hp au;replace Hq:=kW Hq au;have u0:=Hu.out.w1;obtain⟨p0,p1,p2⟩:=Hp.out.w3;obtain⟨q0,q1,q2⟩:=Hq.out.w3;replace Hb:=bD Hb au;refine hK _ _ (λ_=>⟨u0,p0,p1,p2,q0,q1,q2⟩) ?_
       refine aY rfl rfl (λK hK=>?_);go_simp;refine hK _ _ (λ_=>⟨bg u0,bg p0,bg p1,bg p2,bg q0,bg q1,bg q2⟩) ?_
       refine cL (λw7=>aH w7 (w6.heap.size) 48 (bY X)/\Bw w6 w7) (by first|exact fI|exact fJ) ?_;rintro w7 ⟨qc,au⟩;replace Hu:=kW Hu au;replace Hp:=kW Hp au;replace Hq:=kW Hq au;have Hc:=az qc;clear qc;have u0:=Hu.out.w1;obtain⟨p0,p1,p2⟩:=Hp.out.w3;obtain⟨q0,q1,q2⟩:=Hq.out.w3;obtain⟨c0,c1,c2⟩:=Hc.out.c3;replace Hb:=bD Hb au;refine aY rfl rfl (λK hK=>?_);have dw:=ownsRow_below Ho.out Hb.out;have jH:=Hb.out.size;refine wp_append_own _ _ _ 32 rfl wc.heap.size 48 i0 _ 3 32 Tryz.underlying32 Hi.out cV.out cW.out cC.out rfl zd v2 j (dC (Z.take j)) rfl dw ⟨w6.heap.size,0,none⟩ 1 1 (bY X) rfl rfl (gK Hc.out) zy zx zo zo ?_;intro v' w8 dY bJ _;obtain⟨g',cq,rfl⟩:=ownsRow_succ dY;have nb:∀b,b<wc.heap.size->some b≠v2.ownBlock:=λb hb e=>by have:=dz dw b e.symm;omega
       refine hK _ _ (λ_=>⟨cK bJ u0 (nb _ lbc),cK bJ p0 (nb _ mo),cK bJ p1 (nb _ mo),cK bJ p2 (nb _ mo),cK bJ q0 (nb _ lj),cK bJ q1 (nb _ lj),cK bJ q2 (nb _ lj)⟩) ?_
       refine pT rfl rfl ?_
       simp only[bP];go_wp2;go_roundw;case rel=>
        refine⟨j+1,_,by omega,by go_num,rfl,?_,?_⟩
        . rw[ru.out];exact dY
        . exact(aO vW.out Hb.out).grown bJ zo (λj e=>dz dw j e)
       case measure=>exact bH
     . obtain rfl:j=n:=by omega
       have ub:Z.take j=Z:=List.take_of_length_le (by rw[<-HZ.out,Dt (by rw[lM.out,nS.out]),lM.out];exact Nat.le_refl _);rw[ub]at ho;obtain⟨a2,cap2,rfl,jT,gj⟩:=dm ho;have fY:=ho.lt;obtain⟨vals,hvl,hov,sL⟩:=eV.out.below hb2;have Hb:=hbz wr;obtain⟨_,_,zu,_⟩:=eV.out;have hvs:=zu.lt;have hin:∀b o,a2=some ⟨b,o,none⟩->some b≠v.ownBlock/\b<wr.heap.size:=by intro b o e;subst e;have h1:=fY b rfl;refine⟨λh2=>?_,h1.2⟩;have h3:=hvs b h2.symm;omega
       obtain⟨yg,vU,mP,AK,dA,cQ⟩:=fw hin jT hvl sL hov hb2;have Ac:=hb2.size;have vS:Hid (Z.length=j):=by show _=_;rw[<-HZ.out,Dt (by rw[lM.out,nS.out]),lM.out]
       clear hin jT hvl sL hov zu hvs hb2 gj fY ub ho bj hj;obtain⟨W6,tZ,bi,ag,aC⟩:=cM wr (Hb.an trivial) 32 [.slice a2 j cap2];have dw:=ownsRow_below dA.out ag.2.1.out;have jH:=ag.2.1.out.size;have hnews:∀i u,([.slice a2 j cap2]:List Value)[i]?=some u->W6.cell? ((⟨wr.heap.size,0,none⟩:Addr).add i)=some u:=gK ag.1.out;skip
       go_wp2_with (at_builtin;refine wpList_append_own_at _ rfl _ _ 82 rfl w.heap.size 32 j0 _ 1 24 Tryz.underlying82 Hj.out kP.out lN.out kj.out rfl zd v k vals rfl dw ⟨wr.heap.size,0,none⟩ 1 1 [.slice a2 j cap2] rfl rfl hnews zy zx zo zo ?_;intro v' w7 ey eT _ eY;obtain⟨g',sj,rfl⟩:=ownsRow_succ ey);go_roundw;case rel=>
        refine⟨k+1,_,by omega,by go_num,rfl,?_,?_⟩
        . refine Own2.push (a:=a2) (c:=cap2) mP.out (w:=W6) ?_ ?_ ?_ ?_ eT eY
          . intro i h;obtain⟨a,c,h1,h2,h3⟩:=AK.out i h;exact⟨a,c,h1,h2.below ag.2.1.out,λb o e=>⟨(h3 b o e).1,Nat.lt_of_lt_of_le (h3 b o e).2 jH⟩⟩
          . rw[yc.out];exact vU.out.below ag.2.1.out
          . exact λb o e=>⟨(yg.out b o e).1,Nat.lt_of_lt_of_le (yg.out b o e).2 jH⟩
          . rw[yc.out,vS.out];exact ey
        . exact(aO (aO aX.out cQ.out) ag.2.1.out).grown eT zo (λj e=>dz dw j e)
       case measure=>exact bH
  . obtain rfl:k=m:=by omega
    obtain⟨a2,c2,rfl,hcl,kE⟩:=Own2.aCA pv HSL.out;obtain⟨yo,aX⟩:=aU kE pb;clear pv pb kE;go_wp2;refine bodyPost_ret (results_tmp rfl _ _ _) rfl ⟨a2,c2,rfl,hcl,yo.out,aX.out⟩
def Tryz.aCG :(Tryz.prog.info? 46).map (λi=>(i.zero,i.size,i.bytes))=some (some (.agg #[aj false,.string (bs [])]),2,24):=by kernel_rfl
def Tryz.aCI :(Tryz.prog.info? 130).map (λi=>(i.zero,i.size,i.bytes))=some (some (.slice none 0 0),1,24):=by kernel_rfl
def iC (z:Int):List Value:=[aj (aK z),ai (nt z.natAbs)]
def zC (zs:List Int):List Value:=zs.flatMap iC
def ayz (a b:List Int):zC (a++b)=zC a++zC b:=by unfold zC;rw[List.flatMap_append]
def jR (w:World)(base n:Nat)(R:List (List Int))(k:Nat)(v:Value):Prop:=
 ∃vals:List Value,vals.length=k/\w.ownsRow base 130 1 v k vals/\(∀i (h:i<vals.length),w.ownsRow base 46 2 vals[i] n (zC (R.getD i [])))/\
  ∀i j (hi:i<vals.length) (hj:j<vals.length) g,vals[i].ownBlock=some g->vals[j].ownBlock=some g->i=j
def jR.nil (w:World)(base n:Nat)(R:List (List Int)):jR w base n R 0 (.slice none 0 0):=
 ⟨[],rfl,World.ownsRow_nil _ _ _ _,λ_ h=>absurd h (Nat.not_lt_zero _),λ_ _ h=>absurd h (Nat.not_lt_zero _)⟩
def jR.below {w w':World}{base n k:Nat}{R:List (List Int)}{v:Value}(h:jR w base n R k v)(hb:Bw w w'):jR w' base n R k v:=by obtain⟨vals,hl,ho,hi,hd⟩:=h;exact⟨vals,hl,ownsRow_below ho hb,λi h=>ownsRow_below (hi i h) hb,hd⟩
def Ki {W:World}{b1 b2 e1 e2 s1 s2 k1 k2:Nat}{v1 v2:Value}{x1 x2:List Value}(h1:W.ownsRow b1 e1 s1 v1 k1 x1)(h2:W.ownsRow b2 e2 s2 v2 k2 x2)(he:e1≠e2):v1.ownBlock=none\/v1.ownBlock≠v2.ownBlock:=by
 rcases h1.2 with⟨rfl,_⟩ |⟨g,cap,cur,rfl,_,hg,_⟩
 . exact .inl rfl
 . refine .inr λh=>?_;rcases h2.2 with⟨rfl,_⟩ |⟨g',cap',cur',rfl,_,hg',_⟩
   . simp[Value.ownBlock]at h
   . simp only[Value.ownBlock,Option.some.injEq]at h;subst h;rw[hg]at hg';simp at hg';exact he hg'.2
def rM {W:World}{base base':Nat}{e:TypeId}{size:Nat}{v:Value}{n:Nat}{xs:List Value}(h:W.ownsRow base e size v n xs)(hb:base'<=base):W.ownsRow base' e size v n xs:=by
 refine⟨h.1,?_⟩;rcases h.2 with h2|⟨g,cap,cur,h1,h2,h3⟩
 . exact .inl h2
 . exact .inr ⟨g,cap,cur,h1,Nat.le_trans hb h2,h3⟩
def jR.push {w w':World}{base n k:Nat}{R:List (List Int)}{v v' x:Value}{vals:List Value}(hl:vals.length=k)(hov:w.ownsRow base 130 1 v k vals)(hi:∀i (h:i<vals.length),w.ownsRow base 46 2 vals[i] n (zC (R.getD i [])))
 (hd:∀i j (hi:i<vals.length) (hj:j<vals.length) g,vals[i].ownBlock=some g->vals[j].ownBlock=some g->i=j)
 (hx:w.ownsRow base 46 2 x n (zC (R.getD k []))) (jh:∀g,x.ownBlock=some g->∀i (h:i<vals.length),vals[i].ownBlock≠some g)
 (ho:w'.ownsRow base 130 1 v' (k+1) (vals++[x])) (hg:w.grownBy w' v.ownBlock):jR w' base n R (k+1) v':=by
 refine⟨_,by simp[hl],ho,λi h=>?_,λi j h1 h2 g e1 e2=>?_⟩
 . by_cases hk:i<vals.length
   . rw[List.getElem_append_left hk];exact(hi i hk).kept hg (Ki (hi i hk) hov zd)
   . have hik:i=k:=by simp at h;omega
     subst hik;rw[List.getElem_append_right zo];simp only[hl,Nat.sub_self,List.getElem_cons_zero];exact hx.kept hg (Ki hx hov zd)
 . by_cases k1:i<vals.length
   . rw[List.getElem_append_left k1]at e1;by_cases k2:j<vals.length
     . rw[List.getElem_append_left k2]at e2;exact hd i j k1 k2 g e1 e2
     . have hjk:j=k:=by simp at h2;omega
       subst hjk;rw[List.getElem_append_right zo]at e2;simp only[hl,Nat.sub_self,List.getElem_cons_zero]at e2;exact absurd e1 (jh g e2 i k1)
   . have hik:i=k:=by simp at h1;omega
     subst hik;rw[List.getElem_append_right zo]at e1;simp only[hl,Nat.sub_self,List.getElem_cons_zero]at e1;by_cases k2:j<vals.length
     . rw[List.getElem_append_left k2]at e2;exact absurd e2 (jh g e1 j k2)
     . simp at h2;omega
def nI (l:Int)(ds:List Dyadic):Int:=ds.foldl (λl d=>min l (dE d)) l
def ot (l:Int)(R:List (List Dyadic)):Int:=R.foldl nI l
def sO (low:Int)(d:Dyadic):Int:=dN d*2^(dE d-low).toNat
def afF (l:Int)(ds:List Dyadic):nI l ds<=l/\∀d∈ds,nI l ds<=dE d:=by
 induction ds generalizing l with
 |nil=>exact⟨Int.le_refl _,λd h=>by cases h⟩
 | cons x xs ih=>
   have h:=ih (min l (dE x));have e:nI l (x::xs)=nI (min l (dE x)) xs:=rfl;rw[e];refine⟨by omega,λd hd=>?_⟩;rcases List.mem_cons.1 hd with rfl|hd
   . omega
   . exact h.2 d hd
def VJ (l:Int)(R:List (List Dyadic)):ot l R<=l/\∀r∈R,∀d∈r,ot l R<=dE d:=by
 induction R generalizing l with
 |nil=>exact⟨Int.le_refl _,λd h=>by cases h⟩
 | cons x xs ih=>
   have h:=ih (nI l x);have h1:=afF l x;have e:ot l (x::xs)=ot (nI l x) xs:=rfl;rw[e];refine⟨by omega,λr hr d hd=>?_⟩;rcases List.mem_cons.1 hr with rfl|hr
   . have:=h1.2 d hd;omega
   . exact h.2 r hr d hd
def afE (l:Int)(ds:List Dyadic)(m:Int)(hl:m<=l)(h:∀d∈ds,m<=dE d):m<=nI l ds:=by
 induction ds generalizing l with
 |nil=>exact hl
 |cons x xs ih=>have hx:=h x (List.mem_cons_self ..);exact ih (min l (dE x)) zo (λd hd=>h d (List.mem_cons_of_mem _ hd))
def VI (l:Int)(R:List (List Dyadic))(m:Int)(hl:m<=l)(h:∀r∈R,∀d∈r,m<=dE d):m<=ot l R:=by
 induction R generalizing l with
 |nil=>exact hl
 |cons x xs ih=>exact ih (nI l x) (afE l x m hl (h x (List.mem_cons_self ..))) (λr hr=>h r (List.mem_cons_of_mem _ hr))
def asU (l:Int)(ds:List Dyadic)(k:Nat)(h:k<ds.length):nI l (ds.take (k+1))=min (nI l (ds.take k)) (dE ds[k]):=by unfold nI;rw[List.take_succ_eq_append_getElem h,List.foldl_append];rfl
def asV (l:Int)(R:List (List Dyadic))(k:Nat)(h:k<R.length):ot l (R.take (k+1))=nI (ot l (R.take k)) R[k]:=by unfold ot;rw[List.take_succ_eq_append_getElem h,List.foldl_append];rfl
def apG (x y z:Value)(W:World):(Instr.field 48 (.agg #[x,y,z]) 1).run Tryz.prog W=.ok z W:=by kernel_rfl
def awH (low:Int)(d:Dyadic)(h:low<=dE d):Dyadic.ofIntWithPrec (sO low d) (-low)=d:=by
 have e: -low= -(dE d)+((dE d-low).toNat:Int):=by omega
 unfold sO;rw[e,xL];exact(uA d).symm
def ag7 (a:Option Addr)(L cap n:Nat)(rows:List (List Raw))(B:Nat)(low:Int)(w:World)(hL:rows.length=L)(hL8:L<=8)(hn8:n<=8)(hrow:∀r∈rows,r.length=n)(ha:bQ w a rows)
 (hfit:∀r∈rows,∀c∈r,Fit B c) (hB:B<=10000000) (hT:aR w) (kZ:ot 0 (rows.map λr=>r.map aJ)=low):
 Cl 112 #[.slice a L cap] w λe w'=>∃v,e=.returned (.tuple #[v,ah (-low)])/\
  jR w' w.heap.size n ((rows.map λr=>r.map aJ).map λr=>r.map (sO low)) L v/\Bw w w':=by
 obtain⟨i0,hi,hz0,hz1,hz2⟩:=info_parts Tryz.aCG;obtain⟨j0,hj,hy0,hy1,hy2⟩:=info_parts Tryz.aCI;obtain⟨D,hD⟩:=aI (rows.map λr=>r.map aJ);have hDL:D.length=L:=by rw[<-hD];simp[hL]
 have hDk:∀k (h:k<rows.length) (h':k<D.length),D[k]=rows[k].map aJ:=λk h h'=>by subst hD;simp
 have GV:∀r∈D,∀d∈r,-268435456<=dE d/\dE d<=268435456:=by intro r hr d hd;rw[<-hD]at hr;obtain⟨r',hr',rfl⟩:=List.mem_map.1 hr;obtain⟨x,hx,rfl⟩:=List.mem_map.1 hd;exact(((hfit r' hr' x hx).2).fit zo).1.2
 rw[hD]at kZ⊢;have hlo:low<=0/\∀r∈D,∀d∈r,low<=dE d:=by rw[<-kZ];exact VJ 0 D
 have hlb: -268435456<=low:=by rw[<-kZ];exact VI 0 D _ zd (λr hr d hd=>(GV r hr d hd).1)
 have zD:∀k j (h:k<D.length) (h':j<=D[k].length),-268435456<=nI (ot 0 (D.take k)) (D[k].take j)/\nI (ot 0 (D.take k)) (D[k].take j)<=0:=by intro k j h h';have g1: -268435456<=ot 0 (D.take k):=VI 0 _ _ zd (λr hr d hd=>(GV r (List.mem_of_mem_take hr) d hd).1);have g2:=(VJ 0 (D.take k)).1;have g3:=(afF (ot 0 (D.take k)) (D[k].take j)).1;exact⟨afE _ _ _ g1 (λd hd=>(GV _ (List.getElem_mem h) d (List.mem_of_mem_take hd)).1),by omega⟩
 obtain⟨Hi,cV,cW,cC,Hj,kP,lN,kj,Pw,XP,HDe,akw⟩:=fu hi hz0 hz1 hz2 hj hy0 hy1 hy2 hDL hDk GV kZ;obtain⟨Zm,FE,Da,Ha,HT,mO,rS,HL⟩:=om hlo hlb zD ha hT hrow hfit hL;have hnl:IntKind.i64.wrap (-low)= -low:=by rw[IntKind.wrap_i64];omega
 obtain⟨nl,UE⟩:=aI (-low);obtain⟨S,hS⟩:=aI (D.map λr=>r.map (sO low));have ni:∀k (h:k<D.length),S.getD k []=D[k].map (sO low):=λk h=>by subst hS;simp[h]
 rw[hS,UE];have aeg:IntKind.i64.wrap (-low)=nl:=by rw[hnl,UE]
 obtain⟨QH,Ap⟩:=aU aeg ni;clear hnl UE aeg hS ni hi hz0 hz1 hz2 hj hy0 hy1 hy2 zD hlb hlo GV hDk hDL kZ ha hT hrow hfit hL hD;go_enter Tryz.func112,Tryz.ntmps112;have Hb:=hbz w;go_wp2_with fail;go_loopw[4,18] (λs4 x wr=>∃k:Nat,k<=L/\x=ah (k:Int)/\s4=ah (ot 0 (D.take k))/\Bw w wr) (λ_ x _=>L-(intOf x).toNat);case atStart=>exact⟨0,Nat.zero_le _,rfl,rfl,Hb.out⟩
 case round=>
  clear Hb;obtain⟨k,hk,rfl,rfl,pb⟩:=hrel;by_cases hlt:k<L
  . have hk2:k<rows.length:=by rw[HL.out];exact hlt
    have hk3:k<D.length:=by rw[Pw.out];exact hlt
    obtain⟨p,fO⟩:=aI (rows[k]);obtain⟨b,o,a1,c1,hab,hc1,hat⟩:=(Ha.out.below pb).row k hk2;have ie:p.length=n:=by rw[<-fO];exact mO.out _ (List.getElem_mem hk2)
    have lh:∀x∈p,Fit B x:=by rw[<-fO];exact rS.out _ (List.getElem_mem hk2)
    have wQ:=XP.out k hk2 hk3;rw[fO]at hc1 hat wQ;rw[ie]at hc1;have sI:=xz L cap k (k:Int) hab hlt rfl;rw[Nat.mul_one]at sI;have hst:=asV 0 D k hk3;have hpt:=λj (h:j<=n)=>Da.out k j hk3 (by rw[wQ,List.length_map,ie];exact h);rw[wQ]at hst;simp only[wQ]at hpt;obtain⟨l0,hl0⟩:=aI (ot 0 (D.take k));rw[hl0]at hst⊢;simp only[hl0]at hpt;obtain⟨eZ,lM,uR,cu,ki,aX⟩:=fw hat ie lh hst hpt pb;clear hat ie lh hst hpt pb hab fO wQ hl0 hk2 hk3;obtain⟨wc,hwc⟩:∃wc,wc=wr:=⟨_,rfl⟩;subst hwc;have fQ:=aX.out.size;go_wp2_with fail;go_loopw[4,24] (λs4 x wr=>∃j:Nat,j<=n/\x=ah (j:Int)/\s4=ah (nI l0 ((p.map aJ).take j))/\Bw wc wr) (λ_ x _=>n-(intOf x).toNat);case atStart=>exact⟨0,Nat.zero_le _,rfl,rfl,Below.refl _ _⟩
    case round=>
     clear hc1;obtain⟨j,hj,rfl,rfl,hb2⟩:=hrel;by_cases bj:j<n
     . have k1:j<p.length:=by rw[lM.out];exact bj
       obtain⟨sp,mp,ep,kF⟩:=na (p[j]);have ic:=uR.out _ (List.getElem_mem k1);have hst:=asU l0 (p.map aJ) j (by simpa using k1);rw[List.getElem_map,kF]at hst;rw[kF]at ic;obtain⟨X,hX⟩:=aI (aJ (sp,mp,ep));rw[hX]at hst;obtain⟨l1,nk⟩:=aI (nI l0 ((p.map aJ).take j));rw[nk]at hst⊢;obtain⟨b1,o1,kV,p0,p1,p2⟩:=(eZ.out.below hb2).num j k1 kF;have Ur:=nD n c1 j (j:Int) kV bj rfl;have Hp:Hid (bA wr b1 (o1+j*3) [aj sp,ai mp,ah ep]):=iR p0 p1 p2;obtain⟨tA,HX,vW,ru,sY⟩:=fH ic.1 hX hb2 hst ((HT.out.below aX.out).below hb2);clear hb2 ic hX hst kF kV p0 p1 p2 nk;have Hb:=hbz wr;obtain⟨ag,aC⟩:=qZ (Hp.an trivial);have p1:wr.cell? ⟨b1,o1+j*3+1,none⟩=some (ai mp):=ag.1.out.cell 1 zm;have p2:wr.cell? ⟨b1,o1+j*3+2,none⟩=some (ah ep):=ag.1.out.cell 2 zm;have p0:wr.cell? ⟨b1,o1+j*3,none⟩=some (aj sp):=ag.1.out.cell 0 zm;have P0:=p0;have P1:=p1;have P2:=p2;have fl:=apG (aj (aK (dN X))) (ai (nt (dN X).natAbs)) (ah (dE X));obtain⟨W4,rD,bi,ag,aC⟩:=cM wr (Hb.an ag) 48 [aj sp,ai mp,ah ep];have HT:Hid (aR W4):=sY.out.below ag.2.1.out;go_wp2_with fail;refine aZ (HT.an ag) (sw sp mp ep X HX.out _ tA.out HT.out) λw5 ag aC=>?_;go_wp2;go_roundw;case rel=>exact⟨j+1,by omega,by go_num,by rw[ru.out],aO vW.out ag.2.2.1.out⟩
       case measure=>exact bH
     . obtain rfl:j=n:=by omega
       have hpt:(p.map aJ).take j=p.map aJ:=List.take_of_length_le (by simp[lM.out]);rw[hpt];go_wp2;go_roundw;case rel=>exact⟨k+1,by omega,by go_num,by rw[cu.out],aO aX.out hb2⟩
       case measure=>exact bH
  . obtain rfl:k=L:=by omega
    have hDt:D.take k=D:=List.take_of_length_le (by rw[Pw.out];exact Nat.le_refl _);rw[hDt,akw.out];have aX:=az pb;clear pb hDt;obtain⟨wa,hwa⟩:∃wa,wa=wr:=⟨_,rfl⟩;subst hwa;have Xe:=aX.out.size;go_wp2_with fail;go_loopw[9,37] (λs9 x wr=>∃(i:Nat) (v:Value),i<=k/\x=ah (i:Int)/\v=s9/\jR wr w.heap.size n S i v/\Bw w wr) (λ_ x _=>k-(intOf x).toNat);case atStart=>exact⟨0,_,Nat.zero_le _,rfl,rfl,jR.nil _ _ _ _,aX.out⟩
    case round=>
     clear aX Xe;obtain⟨i,v,hk,rfl,rfl,pv,pb⟩:=hrel;by_cases hlt:i<k
     . have hk2:i<rows.length:=by rw[HL.out];exact hlt
       have hk3:i<D.length:=by rw[Pw.out];exact hlt
       obtain⟨p,fO⟩:=aI (rows[i]);obtain⟨b,o,a1,c1,hab,hc1,hat⟩:=(Ha.out.below pb).row i hk2;have ie:p.length=n:=by rw[<-fO];exact mO.out _ (List.getElem_mem hk2)
       have lh:∀x∈p,Fit B x:=by rw[<-fO];exact rS.out _ (List.getElem_mem hk2)
       have wQ:=XP.out i hk2 hk3;have rB:=Ap.out i hk3;have hpl:=Zm.out.2 _ (List.getElem_mem hk3);rw[fO]at hc1 hat wQ;rw[wQ]at rB hpl;rw[ie]at hc1;have sI:=xz k cap i (i:Int) hab hlt rfl;rw[Nat.mul_one]at sI;obtain⟨Z,hZ⟩:=aI ((p.map aJ).map (sO low));rw[hZ]at rB;obtain⟨eZ,lM,uR,yc,HZ,oM,aX,eV⟩:=om hat ie lh rB hZ hpl pb pv;clear hat ie lh rB hZ hpl pb pv hab fO wQ hk2 hk3;obtain⟨wc,hwc⟩:∃wc,wc=wr:=⟨_,rfl⟩;subst hwc;have fQ:=aX.out.size;go_wp2_with fail;go_loopw[12,43] (λs12 x wr=>∃(j:Nat) (v2:Value),j<=n/\x=ah (j:Int)/\v2=s12/\wr.ownsRow wc.heap.size 46 2 v2 j (zC (Z.take j))/\Bw wc wr) (λ_ x _=>n-(intOf x).toNat);case atStart=>exact⟨0,_,Nat.zero_le _,rfl,rfl,World.ownsRow_nil _ _ _ _,Below.refl _ _⟩
       case round=>
        clear hc1;obtain⟨j,v2,hj,rfl,rfl,ho,hb2⟩:=hrel;by_cases bj:j<n
        . have k1:j<p.length:=by rw[lM.out];exact bj
          obtain⟨sp,mp,ep,kF⟩:=na (p[j]);have ic:=uR.out _ (List.getElem_mem k1);rw[kF]at ic;obtain⟨X,hX⟩:=aI (aJ (sp,mp,ep));have hle:low<=dE X:=oM.out X (by rw[<-hX,<-kF];exact List.mem_map_of_mem (List.getElem_mem k1));have fM:Sm B X:=by rw[<-hX];exact ic.2
          have TF:=(fM.fit zo).1;have sG:(nt (dN X).natAbs).length<=268435456:=TF.1;have hXe: -268435456<=dE X/\dE X<=268435456:=TF.2;obtain⟨Y,hY⟩:=aI (sO low X);have hlb:=FE.out;have hl0:=Zm.out.1;obtain⟨t,ht⟩:∃t:Int,dE X-low=t:=⟨_,rfl⟩;have hwr:IntKind.i64.wrap (dE X-low)=t:=by rw[IntKind.wrap_i64];omega
          have hsh:∀W,Cv 103 #[.agg #[aj (aK (dN X)),ai (nt (dN X).natAbs)],ah t] W (dx Y):=by intro W;have h:=XB (aK (dN X)) (nt (dN X).natAbs) (dE X-low).toNat W zo zo;rw[gu,show((dE X-low).toNat:Int)=t by omega]at h;rw[<-hY];exact h
          have cu:Hid (zC (Z.take (j+1))=zC (Z.take j)++[aj (aK Y),ai (nt Y.natAbs)]):=by
           show _=_
           rw[<-HZ.out,List.take_succ_eq_append_getElem (by simpa using k1),ayz];congr 1;simp only[List.getElem_map,kF,hX,hY];rfl
          obtain⟨b1,o1,kV,p0,p1,p2⟩:=(eZ.out.below hb2).num j k1 kF;have Ur:=nD n c1 j (j:Int) kV bj rfl;have Hp:Hid (bA wr b1 (o1+j*3) [aj sp,ai mp,ah ep]):=iR p0 p1 p2;obtain⟨tA,HX,Ho,cQ,yn,Hwr,sY⟩:=kH ic.1 hX ho hb2 hsh hwr ((HT.out.below aX.out).below hb2);have Ac:=hb2.size;clear ho hb2 ic hX kF kV p0 p1 p2 hle fM TF sG hXe hY hlb hl0 ht hsh hwr;have Hb:=hbz wr;obtain⟨ag,aC⟩:=qZ (Hp.an trivial);have p1:wr.cell? ⟨b1,o1+j*3+1,none⟩=some (ai mp):=ag.1.out.cell 1 zm;have p2:wr.cell? ⟨b1,o1+j*3+2,none⟩=some (ah ep):=ag.1.out.cell 2 zm;have p0:wr.cell? ⟨b1,o1+j*3,none⟩=some (aj sp):=ag.1.out.cell 0 zm;have P0:=p0;have P1:=p1;have P2:=p2;obtain⟨W4,rD,bi,ag,aC⟩:=cM wr (Hb.an ag) 48 [aj sp,ai mp,ah ep];have HT:Hid (aR W4):=sY.out.below ag.2.1.out;go_wp2_with fail;refine aZ (HT.an ag) (sw sp mp ep X HX.out _ tA.out HT.out) λw5 ag aC=>?_;obtain⟨W6,tZ,bi,ag,aC⟩:=cM w5 ag 48 (bY X);have hwr:=Hwr.out;go_wp2_with fail;refine aZ ag (yn.out _) λw7 ag aC=>?_;clear hwr;obtain⟨W8,TA,bi,ag,aC⟩:=cM w7 ag 46 [aj (aK Y),ai (nt Y.natAbs)];have dw:=ownsRow_below Ho.out ag.2.2.2.2.1.out;have jH:=ag.2.2.2.2.1.out.size;have hnews:=gK ag.1.out;skip
          go_wp2_with (at_builtin;refine wpList_append_own_at _ rfl _ _ 130 rfl wc.heap.size 46 i0 _ 2 24 Tryz.underlying130 Hi.out cV.out cW.out cC.out rfl zd v2 j (zC (Z.take j)) rfl dw ⟨w7.heap.size,0,none⟩ 1 1 [aj (aK Y),ai (nt Y.natAbs)] rfl rfl hnews zy zx zo zo ?_;intro v' w9 fN sH _ _;obtain⟨g',sj,rfl⟩:=ownsRow_succ fN);go_roundw;case rel=>
           refine⟨j+1,_,by omega,by go_num,rfl,?_,?_⟩
           . rw[cu.out];exact fN
           . exact(aO cQ.out ag.2.2.2.2.1.out).grown sH zo (λj e=>dz dw j e)
          case measure=>exact bH
        . obtain rfl:j=n:=by omega
          have ub:Z.take j=Z:=List.take_of_length_le (by rw[<-HZ.out];simp[lM.out]);rw[ub]at ho;obtain⟨a2,cap2,rfl,_,_⟩:=dm ho;have fY:=ho.lt;obtain⟨vals,hvl,hov,sL,Jx⟩:=eV.out;have jh:∀g,(Value.slice a2 j cap2).ownBlock=some g->∀m (h:m<vals.length),vals[m].ownBlock≠some g:=by intro g h1 m h2 h3;have:=(fY g h1).1;have:=((sL m h2).lt g h3).2;omega
          obtain⟨Aw,mP,AK,dA,cQ,Rk,Ho⟩:=kH jh hvl sL hov hb2 Jx ho;have Hb:=hbz wr;have Ac:=hb2.size;clear jh hvl hov sL hb2 Jx fY ub ho bj hj;obtain⟨W6,tZ,bi,ag,aC⟩:=cM wr (Hb.an trivial) 130 [.slice a2 j cap2];have Ta:=aO cQ.out ag.2.1.out;have dw:=ownsRow_below dA.out Ta;have jH:=ag.2.1.out.size;have hnews:∀i u,([.slice a2 j cap2]:List Value)[i]?=some u->W6.cell? ((⟨wr.heap.size,0,none⟩:Addr).add i)=some u:=gK ag.1.out;skip
          go_wp2_with (at_builtin;refine wpList_append_own_at _ rfl _ _ 142 rfl w.heap.size 130 j0 _ 1 24 Tryz.underlying142 Hj.out kP.out lN.out kj.out rfl zd v i vals rfl dw ⟨wr.heap.size,0,none⟩ 1 1 [.slice a2 j cap2] rfl rfl hnews zy zx zo zo ?_;intro v' w7 ey eT _ _;obtain⟨g',sj,rfl⟩:=ownsRow_succ ey);go_roundw;case rel=>
           refine⟨i+1,_,by omega,by go_num,rfl,?_,?_⟩
           . refine jR.push (w:=W6) mP.out dw (λm h=>ownsRow_below (AK.out m h) Ta) Rk.out ?_ Aw.out ey eT;rw[yc.out];exact rM (ownsRow_below Ho.out ag.2.1.out) zo
           . exact(aO aX.out Ta).grown eT zo (λj e=>dz dw j e)
          case measure=>exact bH
     . obtain rfl:i=k:=by omega
       obtain⟨aX,eV⟩:=aU pb pv;clear pb pv;have hnl:=QH.out;go_wp2;refine bodyPost_ret (v:=.tuple #[v,ah nl]) (by simp[results,Tryz.results112,go_sem]) rfl ⟨v,rfl,eV.out,aX.out⟩
end Go.Proofs.YtnjfebkelecgaaaGreatDoor
namespace Go.Proofs.YtnjfebkelecgaaaGreatDoor
open Go.RowKit
def nK {w:World}{base:Nat}{e:TypeId}{size n cap g:Nat}{xs:List Value}(h:w.ownsRow base e size (.slice (some ⟨g,0,none⟩) n cap) n xs)(j:Nat)(hj:j<xs.length):w.cell? ⟨g,j,none⟩=some xs[j]:=by
 rcases h.2 with⟨h1,_⟩ |⟨g',cap',cur,h1,_,hg,_,_,_,hx⟩
 . simp at h1
 . simp only[Value.slice.injEq,Option.some.injEq,Addr.mk.injEq,and_true,true_and]at h1;obtain⟨rfl,rfl⟩:=h1;have h2:cur.toList.take (n*size)=xs:=hx;have h3:cur.toList[j]?=some xs[j]:=by rw[<-List.getElem?_eq_getElem hj];simp only[<-h2];rw[List.getElem?_take];rw[<-h2,List.length_take]at hj;rw[if_pos (Nat.lt_of_lt_of_le hj (Nat.min_le_left _ _))]
   have h4:aH w g e cur.toList:=by unfold aH;simpa using hg
   rw[h4.cell];exact h3
def mr {w:World}{base:Nat}{e:TypeId}{size n cap g:Nat}{xs:List Value}(h:w.ownsRow base e size (.slice (some ⟨g,0,none⟩) n cap) n xs)(j:Nat)(u:Value):(w.setCell ⟨g,j,none⟩ u).ownsRow base e size (.slice (some ⟨g,0,none⟩) n cap) n (xs.set j u):=by
 refine⟨by rw[List.length_set];exact h.1,?_⟩;rcases h.2 with⟨h1,_⟩ |⟨g',cap',cur,h1,hb,hg,h4,h5,h6,hx⟩
 . simp at h1
 . simp only[Value.slice.injEq,Option.some.injEq,Addr.mk.injEq,and_true,true_and]at h1;obtain⟨rfl,rfl⟩:=h1;refine .inr ⟨g,cap,cur.setIfInBounds j u,rfl,hb,?_,h4,h5,by simpa using h6,?_⟩
   . simp[World.setCell,Array.getElem?_modify,hg]
   . rw[<-hx];simp[List.take_set]
def ayB (zs:List Int):(zC zs).length=zs.length*2:=nU iC 2 (λ_=>rfl) zs
def ayA (zs:List Int)(j:Nat)(hj:j<zs.length):(zC zs)[j*2]?=some (aj (aK zs[j]))/\(zC zs)[j*2+1]?=some (ai (nt zs[j].natAbs)):=by
 induction zs generalizing j with
 |nil=>simp at hj
 | cons z zs ih=>
   have e:zC (z::zs)=aj (aK z)::ai (nt z.natAbs)::zC zs:=rfl;rw[e];cases j with
   |zero=>exact⟨rfl,rfl⟩
   |succ j=>have:=ih j (by simpa using hj);rw[show(j+1) *2=j*2+1+1 by omega];simpa using this
def ayC (zs:List Int)(j:Nat)(hj:j<zs.length)(y:Int):((zC zs).set (j*2) (aj (aK y))).set (j*2+1) (ai (nt y.natAbs))=zC (zs.set j y):=by
 induction zs generalizing j with
 |nil=>simp at hj
 | cons z zs ih=>
   have e:zC (z::zs)=aj (aK z)::ai (nt z.natAbs)::zC zs:=rfl;rw[e];cases j with
   |zero=>rfl
   |succ j=>have:=ih j (by simpa using hj);rw[show(j+1) *2=j*2+1+1 by omega];simp only[List.set_cons_succ];rw[this];rfl
def jR.num {w:World}{base n L:Nat}{R:List (List Int)}{v:Value}(h:jR w base n R L v)(i j:Nat)(hi:i<L)(hj:j<n)(hR:R.length=L)(hr:(R.getD i []).length=n):
 ∃go cap g c,v=.slice (some ⟨go,0,none⟩) L cap/\base<=go/\base<=g/\g≠go/\w.cell? ⟨go,i,none⟩=some (.slice (some ⟨g,0,none⟩) n c)/\
  w.cell? ⟨g,j*2,none⟩=some (aj (aK ((R.getD i []).getD j 0)))/\w.cell? ⟨g,j*2+1,none⟩=some (ai (nt ((R.getD i []).getD j 0).natAbs))/\
  ∀y:Int,jR ((w.setCell ⟨g,j*2,none⟩ (aj (aK y))).setCell ⟨g,j*2+1,none⟩ (ai (nt y.natAbs))) base n (R.set i ((R.getD i []).set j y)) L v:=by
 obtain⟨vals,hl,ho,hv,hd⟩:=h;have hi2:i<vals.length:=by omega
 have hrow:=hv i hi2;have hxl:(zC (R.getD i [])).length=n*2:=by rw[ayB,hr]
 obtain⟨a0,cap,rfl,_,_⟩:=dm ho;obtain⟨a1,c,e1,_,hab⟩:=dm hrow;rw[e1]at hrow;rcases ho.2 with⟨h1,_⟩ |⟨go,cap',cur,h1,jE,hgo,_⟩
 . simp at h1;omega
 simp only[Value.slice.injEq,true_and]at h1;obtain⟨rfl,rfl⟩:=h1;rcases hrow.2 with⟨h1,_⟩ |⟨g,c',cur',h1,hbg,hgg,_⟩
 . simp at h1;omega
 simp only[Value.slice.injEq,true_and]at h1;obtain⟨rfl,rfl⟩:=h1;have hne:g≠go:=by rintro rfl;rw[hgo]at hgg;simp at hgg
 have hat:=ayA (R.getD i []) j zo;have hg0:(R.getD i []).getD j 0=(R.getD i [])[j]'zo:=by rw[List.getD_eq_getElem?_getD,List.getElem?_eq_getElem zo];rfl
 have hc0:=nK hrow (j*2) zo;have hc1:=nK hrow (j*2+1) zo;rw[<-List.getElem?_eq_getElem]at hc0 hc1;rw[hat.1]at hc0;rw[hat.2]at hc1;refine⟨go,cap,g,c,rfl,jE,hbg,hne,?_,by rw[hg0];exact hc0,by rw[hg0];exact hc1,λy=>?_⟩
 . rw[nK ho i zo,e1]
 . refine⟨vals,hl,?_,λm hm=>?_,hd⟩
   . exact ownsRow_setCell_other (ownsRow_setCell_other ho (by simpa[Value.ownBlock]using hne.symm) _) (by simpa[Value.ownBlock]using hne.symm) _
   . by_cases xe:m=i
     . subst xe;have hs:(R.set m ((R.getD m []).set j y)).getD m []=(R.getD m []).set j y:=by rw[List.getD_eq_getElem?_getD,List.getElem?_set_self zo];rfl
       rw[hs,e1,<-ayC _ _ zo];exact mr (mr hrow _ _) _ _
     . have hs:(R.set i ((R.getD i []).set j y)).getD m []=R.getD m []:=by rw[List.getD_eq_getElem?_getD,List.getElem?_set_ne (λe=>xe e.symm),<-List.getD_eq_getElem?_getD]
       rw[hs];have hno:vals[m].ownBlock≠some g:=λe=>xe (hd m i hm hi2 g e (by rw[e1];rfl));exact ownsRow_setCell_other (ownsRow_setCell_other (hv m hm) hno _) hno _
def swp (i m k:Nat):Nat:=if k=i then m else if k=m then i else k
def axj {i m a b:Nat}(h:swp i m a=swp i m b):a=b:=by
 unfold swp at h;repeat' split at h
 all_goals omega
def OY {i m k L:Nat}(hi:i<L)(hm:m<L)(hk:k<L):swp i m k<L:=by
 unfold swp;repeat' split
 all_goals omega
def WQ {α:Type}(l:List α)(d:α)(i m:Nat)(hi:i<l.length)(hm:m<l.length)(k:Nat)(hk:k<l.length):((l.set i (l.getD m d)).set m (l.getD i d)).getD k d=l.getD (swp i m k) d:=by
 unfold swp;by_cases h1:k=m
 . subst h1;rw[List.getD_eq_getElem?_getD,List.getElem?_set_self (by simpa using hk)];by_cases h2:k=i
   . subst h2;simp
   . simp[h2]
 . rw[List.getD_eq_getElem?_getD,List.getElem?_set_ne (λe=>h1 e.symm)];by_cases h2:k=i
   . subst h2;rw[List.getElem?_set_self (by simpa using hk)];simp
   . rw[List.getElem?_set_ne (λe=>h2 e.symm)];simp[h1,h2]
def jR.swap {w:World}{base n L go cap:Nat}{R:List (List Int)}(h:jR w base n R L (.slice (some ⟨go,0,none⟩) L cap))(i m:Nat)(hi:i<L)(hm:m<L)(hR:R.length=L):
 ∃x y,w.cell? ⟨go,i,none⟩=some x/\w.cell? ⟨go,m,none⟩=some y/\jR ((w.setCell ⟨go,i,none⟩ y).setCell ⟨go,m,none⟩ x) base n ((R.set i (R.getD m [])).set m (R.getD i [])) L (.slice (some ⟨go,0,none⟩) L cap):=by
 obtain⟨vals,hl,ho,hv,hd⟩:=h;have hi2:i<vals.length:=by omega
 have hm2:m<vals.length:=by omega
 have hgo:∀k (hk:k<vals.length),vals[k].ownBlock≠some go\/vals[k].ownBlock=none:=by
  intro k hk;rcases Ki (hv k hk) ho zd with e|e
  . exact .inr e
  . exact .inl e
 have hel:∀k (hk:k<vals.length),((vals.set i vals[m]).set m vals[i])[k]'(by simpa using hk)=vals[swp i m k]'(OY hi2 hm2 hk):=by intro k hk;have:=WQ vals (aj false) i m hi2 hm2 k hk;have hs:=OY hi2 hm2 hk;simpa[List.getD_eq_getElem?_getD,List.getElem?_eq_getElem,hi2,hm2,hk,hs]using this
 refine⟨vals[i],vals[m],nK ho i zo,nK ho m zo,_,by simp[hl],mr (mr ho i _) m _,λk hk=>?_,λa b ha hb g e1 e2=>?_⟩
 . have hk2:k<vals.length:=by simpa using hk
   have hs:=OY hi2 hm2 hk2;rw[hel k hk2,WQ R [] i m zo zo k zo];have hno:vals[swp i m k].ownBlock≠some go:=by
    rcases hgo _ hs with e|e
    . exact e
    . rw[e];simp
   exact ownsRow_setCell_other (ownsRow_setCell_other (hv _ hs) hno _) hno _
 . have ha2:a<vals.length:=by simpa using ha
   have hb2:b<vals.length:=by simpa using hb
   rw[hel a ha2]at e1;rw[hel b hb2]at e2;exact axj (hd _ _ _ _ g e1 e2)
end Go.Proofs.YtnjfebkelecgaaaGreatDoor
namespace Go.Proofs.YtnjfebkelecgaaaGreatDoor
open Go.RowKit
attribute [local go_sem ↓] Go.wp_at_zero Go.wp_at_succ
def anc (bk k g n c:Nat)(z:Int)(w:World)(hk:w.cell? ⟨bk,0,none⟩=some (ah (k:Int)))(hkn:k<n)(h0:w.cell? ⟨g,k*2,none⟩=some (aj (aK z)))(h1:w.cell? ⟨g,k*2+1,none⟩=some (ai (nt z.natAbs)))(hz:(nt z.natAbs).length<=1099511627776):
 Cv 151 #[.slice (some ⟨g,0,none⟩) n c,.pointer (some ⟨bk,0,none⟩)] w (aj (decide (z≠0))):=by
 have bC:=xw n c k (k:Int) (show some (⟨g,0,none⟩:Addr)=some ⟨g,0,none⟩from rfl) hkn rfl;rw[Nat.zero_add]at bC;have Hz:=az hz;obtain⟨s,hs⟩:=aI (aK z);obtain⟨l,hl⟩:=aI (nt z.natAbs);have jI:=λW=>Pn (aK z) (nt z.natAbs) W hz;rw[gu]at jI;rw[hs,hl]at jI;rw[hs]at h0;rw[hl]at h1;obtain⟨t,ht⟩:=aI (fU z);rw[ht]at jI;have hd:decide (z≠0)=decide (t≠0):=by
  rw[<-ht];unfold fU;by_cases h:z=0
  . simp[h]
  . by_cases h2:z<0
    . simp[h,h2]
    . simp[h,h2]
 rw[hd];have oO:=az jI;clear jI hd ht hs hl hz Hz;have Hb:=hbz w;go_enter Tryz.func151,Tryz.ntmps151;go_wp2_with fail;refine aZ (Hb.an trivial) (oO.out _) λw1 ag aC=>?_;clear h0 h1 hk bC;go_wp2;refine bodyPost_ret (results_tmp rfl _ _ _) rfl ⟨?_,ag.1.out⟩;by_cases h:t=0<;>simp[h]
def ar2 (p:Value->Bool)(vs:List Value)(q:Nat->Bool)(c:Nat)(h:∀i (hi:i<vs.length),p vs[i]=q i):
 idxFrom p vs c=match (List.range vs.length).find? q with|none=>-1|some m=>((c+m:Nat):Int):=by
 induction vs generalizing c q with
 |nil=>rfl
 | cons v vs ih=>
   have h0:=h 0 zm;have hs:=ih (λi=>q (i+1)) (c+1) (λi hi=>h (i+1) (by simpa using hi));simp only[List.getElem_cons_zero]at h0;rw[List.length_cons,List.range_succ_eq_map,List.find?_cons];unfold idxFrom;rw[h0];cases hq:q 0 with
   |true=>simp
   | false=>
     rw[hs,List.find?_map];simp only[Bool.false_eq_true,if_false];have e:(q∘Nat.succ)=λi=>q (i+1):=rfl;rw[e];cases (List.range vs.length).find? λi=>q (i+1)with
     |none=>rfl
     |some m=>simp only[Option.map_some];congr 1;omega
def auB (p:Value->Bool)(vals:List Value)(f:Nat->Nat->Int)(n k:Nat)(hn:vals.length=n)(h:∀i (hi:i<vals.length),p vals[i]=decide (f i k≠0)):
 idxFrom p (vals.drop k) 0=match rN f n k with|none=>-1|some m=>(m:Int):=by
 rw[ar2 p (vals.drop k) (λi=>f (k+i) k !=0) 0 (λi hi=>by
  rw[List.getElem_drop,h]
  simp[bne,Bool.beq_eq_decide_eq])]
 unfold rN;rw[List.length_drop,hn];simp only[Nat.zero_add]
def ayb (x y:Int)(w:World)(hx:(nt x.natAbs).length<=34359738368)(hy:(nt y.natAbs).length<=34359738368)(h0:y≠0)(hd:y∣x):
 Cl 152 #[.agg #[aj (aK x),ai (nt x.natAbs)],.agg #[aj (aK y),ai (nt y.natAbs)]] w λe w'=>∃r,e=.returned (.tuple #[dx (x/y),r,aj true])/\Bw w w':=by
 have h:=ayc (aK x) (aK y) (nt x.natAbs) (nt y.natAbs) w hx hy (by rw[jp];omega) (by rw[jp,jp];exact Nat.mod_eq_zero_of_dvd (Int.natAbs_dvd_natAbs.2 hd));rw[gu,gu]at h;exact h
end Go.Proofs.YtnjfebkelecgaaaGreatDoor
namespace Go.Proofs.YtnjfebkelecgaaaGreatDoor
open Go.RowKit
def fh (f:Nat->Nat->Int)(n:Nat):List (List Int):=(List.range n).map λa=>(List.range n).map (f a)
def Km (f:Nat->Nat->Int)(n:Nat):(fh f n).length=n:=by simp[fh]
def Pf (f:Nat->Nat->Int)(n i:Nat)(h:i<n):(fh f n).getD i []=(List.range n).map (f i):=by simp[fh,List.getD_eq_getElem?_getD,h]
def axp (f:Nat->Nat->Int)(n i j:Nat)(h:i<n)(h':j<n):((fh f n).getD i []).getD j 0=f i j:=by rw[Pf f n i h];simp[List.getD_eq_getElem?_getD,h']
def axq (f:Nat->Nat->Int)(n i j:Nat)(y:Int)(h:i<n):(fh f n).set i (((fh f n).getD i []).set j y)=fh (λa b=>if a=i/\b=j then y else f a b) n:=by
 rw[Pf f n i h];apply List.ext_getElem
 . simp[fh]
 . intro a h1 h2;have ha:a<n:=by simpa[fh]using h2
   rw[List.getElem_set];split
   . rename_i e
     subst e;apply List.ext_getElem
     . simp[fh]
     . intro b h3 h4;have hb:b<n:=by simpa[fh]using h4
       rw[List.getElem_set];by_cases e2:j=b
       . subst e2;simp[fh]
       . have e3:¬b=j:=λe=>e2 e.symm;simp[fh,e2,e3]
   . rename_i e
     have e3:¬a=i:=λe'=>e e'.symm;simp[fh,e3]
def axr (f:Nat->Nat->Int)(n k m:Nat)(h:k<n)(h':m<n):((fh f n).set k ((fh f n).getD m [])).set m ((fh f n).getD k [])=fh (cN f k m) n:=by
 apply List.ext_getElem
 . simp[fh]
 . intro a h1 h2;have ha:a<n:=by simpa[fh]using h2
   have hs:=WQ (fh f n) [] k m (by rw[Km];exact h) (by rw[Km];exact h') a (by rw[Km];exact ha);rw[List.getD_eq_getElem?_getD,List.getElem?_eq_getElem h1]at hs;simp only[Option.getD_some]at hs;rw[hs,Pf f n _ (OY h h' ha)];simp[fh,cN,swp]
def Ey {w:World}{base:Nat}{e:TypeId}{size n cap g:Nat}{xs:List Value}(h:w.ownsRow base e size (.slice (some ⟨g,0,none⟩) n cap) n xs):base<=g/\∃cur,aH w g e cur:=by
 rcases h.2 with⟨h1,_⟩ |⟨g',cap',cur,h1,hb,hg,_,_,_,hx⟩
 . simp at h1
 . simp only[Value.slice.injEq,Option.some.injEq,Addr.mk.injEq,and_true,true_and]at h1;obtain⟨rfl,rfl⟩:=h1;exact⟨hb,cur.toList,by unfold aH;simpa using hg⟩
def Wj {w:World}{base:Nat}{e:TypeId}{size n:Nat}{v:Value}{xs:List Value}(h:w.ownsRow base e size v n xs)(hn:1<=n):∃g cap,v=.slice (some ⟨g,0,none⟩) n cap:=by
 rcases h.2 with⟨h1,h2⟩ |⟨g',cap',cur,h1,_⟩
 . omega
 . exact⟨g',cap',h1⟩
def axo {f g:Nat->Nat->Int}(n:Nat)(h:∀a b,a<n->b<n->f a b=g a b):fh f n=fh g n:=by unfold fh;refine List.map_congr_left (λa ha=>List.map_congr_left (λb hb=>h a b (List.mem_range.1 ha) (List.mem_range.1 hb)))
def amg (w:World)(go L top:Nat):Prop:=go<top/\∀m g n c,m<L->w.cell? ⟨go,m,none⟩=some (.slice (some ⟨g,0,none⟩) n c)->g<top
def BS (w0 w:World)(base n go cap top:Nat)(f:Nat->Nat->Int):Prop:=
 jR w base n (fh f n) n (.slice (some ⟨go,0,none⟩) n cap)/\amg w go n top/\Below base w0 w/\top<=w.heap.size
def BS.begin {w:World}{base n:Nat}{f:Nat->Nat->Int}{v:Value}(h:jR w base n (fh f n) n v)(hn:1<=n):∃go cap,v=.slice (some ⟨go,0,none⟩) n cap/\n<=cap/\BS w w base n go cap w.heap.size f:=by
 have h0:=h;obtain⟨vals,hl,ho,hv,_⟩:=h;obtain⟨go,cap,rfl⟩:=Wj ho hn;refine⟨go,cap,rfl,OA ho,h0,⟨?_,λm g n' c hm hc=>?_⟩,Below.refl _ _,Nat.le_refl _⟩
 . obtain⟨_,cur,hb⟩:=Ey ho;exact hb.lt
 . have hm2:m<vals.length:=by omega
   rw[nK ho m hm2]at hc;simp only[Option.some.injEq]at hc;have hrow:=hv m hm2;obtain⟨g',cap',e⟩:=Wj hrow hn;rw[e]at hrow hc;simp at hc;obtain⟨rfl,rfl,rfl⟩:=hc;exact(Ey hrow).2.choose_spec.lt
def BS.below {w0 w w':World}{base n go cap top:Nat}{f:Nat->Nat->Int}(h:BS w0 w base n go cap top f)(hb:Bw w w')(jU:base<=top):BS w0 w' base n go cap top f:=by
 obtain⟨h1,⟨h2,h3⟩,h4,h5⟩:=h;have hs:=hb.size;refine⟨h1.below hb,⟨h2,λm g n' c hm hc=>h3 m g n' c hm ?_⟩,?_,by omega⟩
 . rw[World.cell?_of_block (a:=⟨go,m,none⟩) (w:=w) (hb.block go zo)]at hc;exact hc
 . exact h4.trans (hb.mono zo)
def BS.congr {w0 w:World}{base n go cap top:Nat}{f g:Nat->Nat->Int}(h:BS w0 w base n go cap top f)(he:∀a b,a<n->b<n->f a b=g a b):BS w0 w base n go cap top g:=by unfold BS at*;rw[<-axo n he];exact h
def BS.row {w0 w:World}{base n go cap top:Nat}{f:Nat->Nat->Int}(h:BS w0 w base n go cap top f)(i:Nat)(hi:i<n):
 ∃g c,base<=g/\g<top/\w.cell? ⟨go,i,none⟩=some (.slice (some ⟨g,0,none⟩) n c)/\(∀j,j<n->w.cell? ⟨g,j*2,none⟩=some (aj (aK (f i j)))/\w.cell? ⟨g,j*2+1,none⟩=some (ai (nt (f i j).natAbs)))/\
  (∀q,w.frozen? ⟨g,q,none⟩=false)/\
  ∀j,j<n->∀y:Int,BS w0 ((w.setCell ⟨g,j*2,none⟩ (aj (aK y))).setCell ⟨g,j*2+1,none⟩ (ai (nt y.natAbs))) base n go cap top (λa b=>if a=i/\b=j then y else f a b):=by
 obtain⟨h1,⟨h2,h3⟩,h4,h5⟩:=h;have hR:(fh f n).length=n:=Km f n;have hr:((fh f n).getD i []).length=n:=by rw[Pf f n i hi];simp
 obtain⟨vals,hl,ho,hv,hd⟩:=id h1;have hi2:i<vals.length:=by omega
 have hrow:=hv i hi2;obtain⟨g,c,e⟩:=Wj hrow zo;rw[e]at hrow;obtain⟨hbg,cur,hblk⟩:=Ey hrow;have hc0:w.cell? ⟨go,i,none⟩=some (.slice (some ⟨g,0,none⟩) n c):=by rw[nK ho i hi2,e]
 refine⟨g,c,hbg,h3 i g n c hi hc0,hc0,λj hj=>?_,λq=>hblk.free q,λj hj y=>?_⟩
 . obtain⟨go',cap',g',c',e0,_,_,_,e1,e2,e3,_⟩:=h1.num i j hi hj hR hr;simp at e0;obtain⟨rfl,rfl⟩:=e0;rw[hc0]at e1;simp at e1;obtain⟨rfl,rfl⟩:=e1;rw[axp f n i j hi hj]at e2 e3;exact⟨e2,e3⟩
 . obtain⟨go',cap',g',c',e0,hb1,hb2,hne,e1,e2,e3,hw⟩:=h1.num i j hi hj hR hr;simp at e0;obtain⟨rfl,rfl⟩:=e0;rw[hc0]at e1;simp at e1;obtain⟨rfl,rfl⟩:=e1;have h6:=hw y;rw[axq f n i j y hi]at h6;refine⟨h6,⟨h2,λm g' n' c' hm hc=>h3 m g' n' c' hm ?_⟩,(h4.setCell hb2 _).setCell hb2 _,by simpa using h5⟩;rw[World.cell?_setCell_far _ _ _ _ (by simpa using hne),World.cell?_setCell_far _ _ _ _ (by simpa using hne)]at hc;exact hc
def BS.swap {w0 w:World}{base n go cap top:Nat}{f:Nat->Nat->Int}(h:BS w0 w base n go cap top f)(i m:Nat)(hi:i<n)(hm:m<n):
 ∃g1 c1 g2 c2,w.cell? ⟨go,i,none⟩=some (.slice (some ⟨g1,0,none⟩) n c1)/\w.cell? ⟨go,m,none⟩=some (.slice (some ⟨g2,0,none⟩) n c2)/\(∀q,w.frozen? ⟨go,q,none⟩=false)/\
  BS w0 ((w.setCell ⟨go,i,none⟩ (.slice (some ⟨g2,0,none⟩) n c2)).setCell ⟨go,m,none⟩ (.slice (some ⟨g1,0,none⟩) n c1)) base n go cap top (cN f i m):=by
 have hb:=h;obtain⟨g1,c1,_,t1,e1,_⟩:=hb.row i hi;obtain⟨g2,c2,_,t2,e2,_⟩:=hb.row m hm;obtain⟨h1,⟨h2,h3⟩,h4,h5⟩:=h;obtain⟨_,_,ho,_,_⟩:=id h1;obtain⟨jE,cur,hblk⟩:=Ey ho;obtain⟨x,y,q1,q2,hw⟩:=h1.swap i m hi hm (Km f n);rw[e1]at q1;rw[e2]at q2;simp only[Option.some.injEq]at q1 q2;subst q1 q2;rw[axr f n i m hi hm]at hw;refine⟨g1,c1,g2,c2,e1,e2,λq=>hblk.free q,hw,⟨h2,λm' g' n' c' hm' hc=>?_⟩,(h4.setCell jE _).setCell jE _,by simpa using h5⟩;by_cases h7:m'=m
 . subst h7;rw[aH.cell ((hblk.set i _).set m' _)]at hc;rw[List.getElem?_set_self']at hc;have:g'=g1:=by
    cases hq:(cur.set i (.slice (some ⟨g2,0,none⟩) n c2))[m']? with
    |none=>rw[hq]at hc;simp at hc
    |some z=>rw[hq]at hc;simp at hc;exact hc.1.symm
   omega
 . rw[World.cell?_setCell_other _ _ _ _ (show(⟨go,m,none⟩:Addr)≠⟨go,m',none⟩from λe=>h7 (by simpa using e.symm))]at hc;by_cases h8:m'=i
   . subst h8;rw[aH.cell (hblk.set m' _),List.getElem?_set_self']at hc;have:g'=g2:=by
      cases hq:cur[m']? with
      |none=>rw[hq]at hc;simp at hc
      |some z=>rw[hq]at hc;simp at hc;exact hc.1.symm
     omega
   . rw[World.cell?_setCell_other _ _ _ _ (show(⟨go,i,none⟩:Addr)≠⟨go,m',none⟩from λe=>h8 (by simpa using e.symm))]at hc;exact h3 m' g' n' c' hm' hc
end Go.Proofs.YtnjfebkelecgaaaGreatDoor
namespace Go.Proofs.YtnjfebkelecgaaaGreatDoor
open Go.RowKit
attribute [local go_sem ↓] Go.wp_at_zero Go.wp_at_succ
def BT (w0 w:World)(base n go cap top:Nat)(f:Nat->Nat->Int)(r l kb:Nat)(last:Int)(k:Nat):Prop:=
 BS w0 w base n go cap top f/\aH w r 46 [aj false,.string ⟨#[]⟩]/\aH w l 46 [aj (aK last),ai (nt last.natAbs)]/\aH w kb 3 [ah (k:Int)]/\base<=top/\top<=r/\top<=l/\top<=kb
def BT.below {w0 w w':World}{base n go cap top:Nat}{f:Nat->Nat->Int}{r l kb:Nat}{last:Int}{k:Nat}(h:BT w0 w base n go cap top f r l kb last k)(hb:Bw w w'):BT w0 w' base n go cap top f r l kb last k:=by obtain⟨h1,h2,h3,h4,h5,h6⟩:=h;exact⟨h1.below hb h5,h2.below hb,h3.below hb,h4.below hb,h5,h6⟩
def BT.congr {w0 w:World}{base n go cap top:Nat}{f g:Nat->Nat->Int}{r l kb:Nat}{last:Int}{k:Nat}(h:BT w0 w base n go cap top f r l kb last k)(he:∀a b,a<n->b<n->f a b=g a b):BT w0 w base n go cap top g r l kb last k:=
 ⟨h.1.congr he,h.2⟩
def BT.drew {w0 w:World}{base n go cap top:Nat}{f:Nat->Nat->Int}{r l kb:Nat}{last:Int}{k:Nat}(h:BT w0 w base n go cap top f r l kb last k):BT w0 w.drew base n go cap top f r l kb last k:=h.below ((Below.refl _ _).drew)
def BT.row {w0 w:World}{base n go cap top:Nat}{f:Nat->Nat->Int}{r l kb:Nat}{last:Int}{k:Nat}(h:BT w0 w base n go cap top f r l kb last k)(i:Nat)(hi:i<n):
 ∃g c,g<w.heap.size/\g<top/\w.cell? ⟨go,i,none⟩=some (.slice (some ⟨g,0,none⟩) n c)/\(∀j,j<n->w.cell? ⟨g,j*2,none⟩=some (aj (aK (f i j)))/\w.cell? ⟨g,j*2+1,none⟩=some (ai (nt (f i j).natAbs)))/\
  (∀q,w.frozen? ⟨g,q,none⟩=false)/\
  ∀j,j<n->∀y:Int,BT w0 ((w.setCell ⟨g,j*2,none⟩ (aj (aK y))).setCell ⟨g,j*2+1,none⟩ (ai (nt y.natAbs))) base n go cap top (λa b=>if a=i/\b=j then y else f a b) r l kb last k:=by
 obtain⟨h1,h2,h3,h4,h5,h6,h7,h8⟩:=h;have h9:=h1.2.2.2;obtain⟨g,c,hb,ht,e1,e2,e3,hw⟩:=h1.row i hi;refine⟨g,c,by omega,ht,e1,e2,e3,λj hj y=>⟨hw j hj y,?_,?_,?_,h5,h6,h7,h8⟩⟩
 . exact(h2.so _ _ zo _).so _ _ zo _
 . exact(h3.so _ _ zo _).so _ _ zo _
 . exact(h4.so _ _ zo _).so _ _ zo _
def BT.swap {w0 w:World}{base n go cap top:Nat}{f:Nat->Nat->Int}{r l kb:Nat}{last:Int}{k:Nat}(h:BT w0 w base n go cap top f r l kb last k)(i m:Nat)(hi:i<n)(hm:m<n):
 ∃g1 c1 g2 c2,w.cell? ⟨go,i,none⟩=some (.slice (some ⟨g1,0,none⟩) n c1)/\w.cell? ⟨go,m,none⟩=some (.slice (some ⟨g2,0,none⟩) n c2)/\(∀q,w.frozen? ⟨go,q,none⟩=false)/\
  BT w0 ((w.setCell ⟨go,i,none⟩ (.slice (some ⟨g2,0,none⟩) n c2)).setCell ⟨go,m,none⟩ (.slice (some ⟨g1,0,none⟩) n c1)) base n go cap top (cN f i m) r l kb last k:=by
 obtain⟨h1,h2,h3,h4,h5,h6,h7,h8⟩:=h;have h9:=h1.2.1.1;obtain⟨g1,c1,g2,c2,e1,e2,e3,hw⟩:=h1.swap i m hi hm;refine⟨g1,c1,g2,c2,e1,e2,e3,hw,?_,?_,?_,h5,h6,h7,h8⟩
 . exact(h2.so _ _ zo _).so _ _ zo _
 . exact(h3.so _ _ zo _).so _ _ zo _
 . exact(h4.so _ _ zo _).so _ _ zo _
def BT.aCO {w0 w:World}{base n go cap top:Nat}{f:Nat->Nat->Int}{r l kb:Nat}{last:Int}{k:Nat}(h:BT w0 w base n go cap top f r l kb last k)(i:Nat)(hi:i<n):
 ∃g c,g<w.heap.size/\g<top/\w.cell? ⟨go,i,none⟩=some (.slice (some ⟨g,0,none⟩) n c)/\(∀j,j<n->w.cell? ⟨g,j*2,none⟩=some (aj (aK (f i j)))/\w.cell? ⟨g,j*2+1,none⟩=some (ai (nt (f i j).natAbs)))/\
  ∀w',Bw w w'->(∀q,w'.frozen? ⟨g,q,none⟩=false)/\∀j,j<n->∀y:Int,BT w0 ((w'.setCell ⟨g,j*2,none⟩ (aj (aK y))).setCell ⟨g,j*2+1,none⟩ (ai (nt y.natAbs))) base n go cap top (λa b=>if a=i/\b=j then y else f a b) r l kb last k:=by
 obtain⟨g,c,h1,h2,h3,h4,_,_⟩:=h.row i hi;refine⟨g,c,h1,h2,h3,h4,λw' hb=>?_⟩;obtain⟨g',c',_,_,e3,_,e5,e6⟩:=(h.below hb).row i hi;have:=cell_later hb h3;rw[e3]at this;simp at this;obtain⟨rfl,rfl⟩:=this;exact⟨e5,e6⟩
def BS.setOther {w0 w:World}{base n go cap top:Nat}{f:Nat->Nat->Int}(h:BS w0 w base n go cap top f)(jU:base<=top)(p o:Nat)(u:Value)(hp:top<=p):BS w0 (w.setCell ⟨p,o,none⟩ u) base n go cap top f:=by
 have hbs:=h;obtain⟨⟨vals,hl,ho,hv,hd⟩,⟨h2,h3⟩,h4,h5⟩:=h;refine⟨⟨vals,hl,ownsRow_setCell_other ho (by simp[Value.ownBlock];omega) _,λi hi=>?_,hd⟩,⟨h2,λm g n' c hm hc=>h3 m g n' c hm ?_⟩,h4.setCell zp _,by simpa using h5⟩
 . obtain⟨g,c,_,ht,e,_⟩:=hbs.row i zo;rw[nK ho i hi]at e;have e1:vals[i]=.slice (some ⟨g,0,none⟩) n c:=by simpa using e
   exact ownsRow_setCell_other (hv i hi) (by rw[e1];simp[Value.ownBlock];omega) _
 . rw[World.cell?_setCell_far _ _ _ _ zp]at hc;exact hc
def BT.setLast {w0 w:World}{base n go cap top:Nat}{f:Nat->Nat->Int}{r l kb:Nat}{last:Int}{k:Nat}(h:BT w0 w base n go cap top f r l kb last k)(x:Int)(h1:l≠r)(h2:l≠kb):
 BT w0 ((w.setCell ⟨l,0,none⟩ (aj (aK x))).setCell ⟨l,1,none⟩ (ai (nt x.natAbs))) base n go cap top f r l kb x k:=by
 obtain⟨q1,q2,q3,q4,q5,q6,q7,q8⟩:=h;exact⟨(q1.setOther q5 l 0 _ q7).setOther q5 l 1 _ q7,(q2.so _ _ h1 _).so _ _ h1 _,(q3.set 0 _).set 1 _,(q4.so _ _ h2 _).so _ _ h2 _,q5,q6,q7,q8⟩
def ayh (x y N:Int)(h:x-y=N)(w:World)(hx:(nt x.natAbs).length<=34359738368)(hy:(nt y.natAbs).length<=34359738368):
 Cv 141 #[.agg #[aj (aK x),ai (nt x.natAbs)],.agg #[aj (aK y),ai (nt y.natAbs)]] w (dx N):=by
 have:=ah7 (aK x) (nt x.natAbs) (aK y) (nt y.natAbs) w hx hy;rw[gu,gu,h]at this;exact this
def ah2 (x y N:Int)(h:x*y=N)(b cap:Nat)(ty:TypeId)(w:World)(hx:(nt x.natAbs).length<=17179869184)(hy:(nt y.natAbs).length<=17179869184)(ha:aH w b ty [aj (aK x),ai (nt x.natAbs),aj (aK y),ai (nt y.natAbs)]):
 Cv 62 #[.slice (some ⟨b,0,none⟩) 2 cap] w (dx N):=
 ah3 _ _ _ _ N (by rw[gu,gu,h]) b cap ty w hx hy ha
def BS.row_ne {w0 w:World}{base n go cap top:Nat}{f:Nat->Nat->Int}(h:BS w0 w base n go cap top f)(i:Nat)(hi:i<n){g c:Nat}(hc:w.cell? ⟨go,i,none⟩=some (.slice (some ⟨g,0,none⟩) n c)):g≠go:=by
 obtain⟨⟨vals,hl,ho,hv,hd⟩,_⟩:=h;have hi2:i<vals.length:=by omega
 rw[nK ho i hi2]at hc;simp only[Option.some.injEq]at hc;have hrow:=hv i hi2;rw[hc]at hrow;obtain⟨_,c1,b1⟩:=Ey hrow;obtain⟨_,c2,b2⟩:=Ey ho;rintro rfl;have:=b1.symm.trans b2;simp at this
def JW (f:Nat->Nat->Int)(n k:Nat):Int:=match rN f n k with|none=>-1|some m=>(m:Int)
open Classical in
def BS.index {w0 w:World}{base n go cap top:Nat}{f:Nat->Nat->Int}(h:BS w0 w base n go cap top f)(k kb:Nat)(hk:k<n)(hn:n<=8)(hkb:w.cell? ⟨kb,0,none⟩=some (ah (k:Int)))(hz:∀a b,a<n->b<n->(nt (f a b).natAbs).length<=1099511627776):
 Cv 150 #[.slice (some ⟨go,k,none⟩) (n-k) (cap-k),.func (.func 151) #[] #[.pointer (some ⟨kb,0,none⟩)]] w (ah (JW f n k)):=by
 have hbs:=h;obtain⟨h1,_,_,_⟩:=h;obtain⟨vals,hl,ho,hv,hd⟩:=h1;have hrow:∀i (hi:i<vals.length),∃g c,vals[i]=.slice (some ⟨g,0,none⟩) n c/\∀j,j<n->w.cell? ⟨g,j*2,none⟩=some (aj (aK (f i j)))/\w.cell? ⟨g,j*2+1,none⟩=some (ai (nt (f i j).natAbs)):=by intro i hi;obtain⟨g,c,_,_,e1,e2,_⟩:=hbs.row i zo;rw[nK ho i hi]at e1;exact⟨g,c,by simpa using e1,e2⟩
 have hinj:∀i j (hi:i<vals.length) (hj:j<vals.length),vals[i]=vals[j]->i=j:=by intro i j hi hj e;obtain⟨g,c,e1,_⟩:=hrow i hi;exact hd i j hi hj g (by rw[e1];rfl) (by rw[<-e,e1];rfl)
 obtain⟨p,hp⟩:∃p:Value->Bool,∀i (hi:i<vals.length),p vals[i]=decide (f i k≠0):=by
  refine⟨λv=>decide (∃i,∃hi:i<vals.length,vals[i]=v/\f i k≠0),λi hi=>?_⟩;by_cases h0:f i k≠0
  . have:∃j,∃hj:j<vals.length,vals[j]=vals[i]/\f j k≠0:=⟨i,hi,rfl,h0⟩;show decide _=decide _
    rw[decide_eq_true this,decide_eq_true h0]
  . have:¬∃j,∃hj:j<vals.length,vals[j]=vals[i]/\f j k≠0:=by rintro⟨j,hj,e,h2⟩;exact h0 (by rw[<-hinj j i hj hi e];exact h2)
    simp only[this,h0,decide_false]
 have hpv:=auB p vals f n k zo hp;have hat:At w (some ⟨go,k,none⟩) (vals.drop k):=by refine .inr ⟨go,k,rfl,λj hj=>?_⟩;rw[List.length_drop]at hj;rw[nK ho (k+j) zo,List.getElem?_drop,List.getElem?_eq_getElem]
 have:=arY (some ⟨go,k,none⟩) (n-k) (cap-k) (vals.drop k) 151 #[.pointer (some ⟨kb,0,none⟩)] p w (by rw[List.length_drop,hl]) zo hat (enters_of Tryz.func151 zk rfl) (λv hv W hb=>by
  obtain⟨i,hi,rfl⟩:=List.mem_iff_getElem.1 hv;rw[List.getElem_drop];have hi2:k+i<vals.length:=by rw[List.length_drop]at hi;omega
  obtain⟨g,c,e1,e2⟩:=hrow (k+i) hi2;obtain⟨e3,e4⟩:=e2 k hk;rw[hp (k+i) hi2,e1]
  exact anc kb k g n c (f (k+i) k) W (cell_later hb hkb) hk (cell_later hb e3) (cell_later hb e4) (hz _ _ zo hk))
 rw[hpv]at this;exact this
end Go.Proofs.YtnjfebkelecgaaaGreatDoor
namespace Go.Proofs.YtnjfebkelecgaaaGreatDoor
def sumTo (f:Nat->Dyadic):Nat->Dyadic
 |0=>0
 |n+1=>sumTo f n+f n
def sumTo_congr {f g:Nat->Dyadic}(n:Nat)(h:∀k,k<n->f k=g k):sumTo f n=sumTo g n:=by
 induction n with
 |zero=>rfl
 |succ n ih=>rw[sumTo,sumTo,ih (λk hk=>h k zo),h n zo]
def axf (f g:Nat->Dyadic)(n:Nat):sumTo (λk=>f k+g k) n=sumTo f n+sumTo g n:=by
 induction n with
 |zero=>simp only[sumTo];grind
 |succ n ih=>simp only[sumTo,ih];grind
def ahn (c:Dyadic)(f:Nat->Dyadic)(n:Nat):sumTo (λk=>c*f k) n=c*sumTo f n:=by
 induction n with
 |zero=>simp only[sumTo];grind
 |succ n ih=>simp only[sumTo,ih];grind
def axg (n:Nat):sumTo (λ_=>0) n=0:=by
 induction n with
 |zero=>rfl
 |succ n ih=>rw[sumTo,ih];grind
def asl {α:Type}(i n:Nat)(h:n≠i)(a b:α):(if i<n+1 then a else b)=if i<n then a else b:=by
 by_cases h1:i<n
 . rw[if_pos h1,if_pos zo]
 . rw[if_neg h1,if_neg zo]
def ch :Nat->Nat->Nat
 |_,0=>1
 |0,_+1=>0
 |n+1,k+1=>ch n k+ch n (k+1)
def gm (x:List Nat)(k:Nat):List Nat:=x.set k (x.getD k 0+1)
def Vw (x:List Nat)(k:Nat):(gm x k).length=x.length:=by simp[gm]
end Go.Proofs.YtnjfebkelecgaaaGreatDoor
namespace Go.Proofs.YtnjfebkelecgaaaGreatDoor
open Go.RowKit
attribute [local go_sem ↓] Go.wp_at_zero Go.wp_at_succ
def kG (n:Nat)(f:Nat->Nat):List Value:=(List.range n).map λj=>ah (f j:Int)
def ar5 (n:Nat)(f:Nat->Nat):(kG n f).length=n:=by simp[kG]
def Cg (n:Nat)(f:Nat->Nat)(j:Nat)(h:j<n):(kG n f)[j]?=some (ah (f j:Int)):=by simp[kG,List.getElem?_range h]
def JD {n:Nat}{f g:Nat->Nat}(h:∀j,j<n->f j=g j):kG n f=kG n g:=by unfold kG;refine List.map_congr_left λj hj=>?_;rw[h j (by simpa using hj)]
def afj (n:Nat)(f:Nat->Nat)(i x:Nat):(kG n f).set i (ah (x:Int))=kG n (λj=>if j=i then x else f j):=by
 apply List.ext_getElem?;intro j;rw[List.getElem?_set,ar5];by_cases h:j<n
 . rw[Cg _ _ _ h,Cg _ _ _ h];by_cases e:i=j
   . subst e;simp[h]
   . simp[e,Ne.symm e]
 . by_cases e:i=j
   . subst e;simp[kG,h]
   . simp[e,kG,h]
def ar6 (n:Nat):List.replicate n (Value.int .i64 0)=kG n λ_=>0:=by
 apply List.ext_getElem?;intro j;by_cases h:j<n
 . rw[Cg _ _ _ h];simp[h]
 . simp[kG,h]
end Go.Proofs.YtnjfebkelecgaaaGreatDoor
