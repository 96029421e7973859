/- Small facts that many walks share: numbers in memory,windows,own rows. -/
import Derived.Test.YtbkopgdpcijfbaaGreatDoorZ7
import Derived.Test.YtbkopgdpcijfbaaGreatDoorZ10
import Derived.Test.YtbkopgdpcijfbaaGreatDoorZ11
import Derived.Carry
import Derived.Maps.AppendAt
import Derived.Maps.OwnIn
import Derived.Maps.Own
import Derived.Maps.Views
import Derived.Maps.Keyed
import Derived.Maps.OwnSet
import Derived.Shelf.Abstract
import Derived.Shelf.RegionOpen
import Derived.OwnWalkIn
import Derived.TacticsInMore
import Derived.LoopNIn
import Derived.LoopIn
import Derived.Lib.BufferWrite
import Derived.Deep.WholeRow
import Derived.Test.YtbkopgdpcijfbaaGreatDoorZ6
import Derived.Test.YtbkopgdpcijfbaaGreatDoorZ5
set_option linter.all false
set_option maxRecDepth 100000
set_option maxHeartbeats 16000000
namespace Go.Proofs.YtbkopgdpcijfbaaGreatDoor
open Go.RowKit
attribute [local go_sem ↓] Go.wp_at_zero Go.wp_at_succ
def hp (k:Nat):Dyadic:=Dyadic.ofIntWithPrec 1 k
def aui (k:Nat):hp (k+1)+hp (k+1)=hp k:=by unfold hp;rw[uh];exact mz 1 1 k
def af6 :hp 0=1:=rfl
def Vy :hp 1+hp 1=1:=by rw[aui 0,af6]
def PF (D:Dyadic)(k:Nat):au (az (dN D),nt (dN D).natAbs,dE D+ -(k:Int))=D*hp k:=by
 have h:=bF D;unfold au canon at h;unfold au hp;simp only[dH]at h⊢;conv=>rhs;rw[<-h]
 rw[ui,Int.mul_one];congr 1;omega
def EI (k:Nat):Sm (k+1) (hp k):=by
 refine⟨2,?_,?_⟩
 . unfold hp;rw[<-mz 1 1 k];rfl
 . have:2^2<=2^(2* (k+1)):=Nat.pow_le_pow_right zd zo;omega
def Tryz.aGt :(Tryz.prog.info? 30).map (λi=>(i.zero,i.size,i.bytes))=some (some (.agg #[ag false,.string (bs []),af 0]),3,32):=by kernel_rfl
def dC (ds:List Dyadic):List Value:=ds.flatMap λd=>bu (canon d)
def acb (ds:List Dyadic):(dC ds).length=ds.length*3:=kQ _ 3 (λ_=>rfl) ds
def Eh (a b:List Dyadic):dC (a++b)=dC a++dC b:=by unfold dC;rw[List.flatMap_append]
def ahB (n:Nat):madeCells (Value.agg #[ag false,.string (bs []),af 0]).cells (n*3)=(dC (List.replicate n 0)).toArray:=by
 have h:∀n,(List.range (n*3)).map (λi=>(Value.agg #[ag false,.string (bs []),af 0]).cells[i%3]!)=dC (List.replicate n 0):=by
  intro n;induction n with
  |zero=>rfl
  |succ n ih=>rw[show(n+1) *3=n*3+1+1+1 by omega,List.range_succ,List.range_succ,List.range_succ,List.map_append,List.map_append,List.map_append,ih,List.replicate_succ',Eh];simp only[List.map_cons,List.map_nil,List.append_assoc];rw[show n*3%3=0 by omega,show(n*3+1)%3=1 by omega,show(n*3+1+1)%3=2 by omega];rfl
 apply Array.ext';rw[<-h n];simp[madeCells];intro a _;rfl
def awm (c:Int)(n:Nat)(hc:c=n)(h:n<=1048576)(w:World):
 (Instr.makeSlice 35 (af c) (af c)).run Tryz.prog w=.ok (.slice (some ⟨w.heap.size,0,none⟩) n n) (w.alloc (.cells (dC (List.replicate n 0)).toArray 30)):=by
 subst hc;obtain⟨i0,hi,hz0,hz1,hz2⟩:=info_parts Tryz.aGt;rw[run_make (P:=Tryz.prog) w 35 30 i0 _ Tryz.underlying35 hi hz0 .i64 .i64 n n zo zo (by rw[hz2];omega) zo];simp only[Int.toNat_natCast,hz1];rw[ahB]
def Pn {Y:Nat->Prop}{W W':World}{base:Nat}{e:TypeId}{size:Nat}{v:Value}{n:Nat}{xs:List Value}(h:W.ownsRow base e size v n xs)(hc:Chg Y W W')(hy:∀b,v.ownBlock=some b->¬Y b):W'.ownsRow base e size v n xs:=by
 refine⟨h.1,?_⟩;rcases h.2 with h1|⟨g,cap,cur,rfl,hb,hg,h2,h3,h4,h5⟩
 . exact .inl h1
 . exact .inr ⟨g,cap,cur,rfl,hb,(hc.block g (Array.getElem?_eq_some_iff.1 hg).1 (hy g rfl)).trans hg,h2,h3,h4,h5⟩
def dZ {W:World}{base:Nat}{e:TypeId}{size:Nat}{v:Value}{n:Nat}{xs:List Value}(h:W.ownsRow base e size v n xs):∃a cap,v=.slice a n cap/\At W a xs/\∀b o,a=some ⟨b,o,none⟩->base<=b:=by
 rcases h.2 with⟨rfl,rfl⟩ |⟨g,cap,cur,rfl,hb,hg,h2,h3,h4,h5⟩
 . refine⟨none,0,rfl,.inl ?_,λb o e=>by cases e⟩;have:=h.1;simpa using this
 . refine⟨_,cap,rfl,.inr ⟨g,0,rfl,λj hj=>?_⟩,λb o e=>by cases e;exact hb⟩;have:=h.cells (g:=g) rfl j (xs[j]) (by simp[hj]);rw[Nat.zero_add];have e2:((⟨g,0,none⟩:Addr).add j)=⟨g,j,none⟩:=by simp[Addr.add];omega
   rw[e2]at this;rw[this];simp[hj]
def aZ (w:World)(b o:Nat)(cs:List Value):Prop:=∀j (h:j<cs.length),w.cell? ⟨b,o+j,none⟩=some cs[j]
def aZ.cell {w:World}{b o:Nat}{cs:List Value}(h:aZ w b o cs)(j:Nat)(hj:j<cs.length):w.cell? ⟨b,o+j,none⟩=some cs[j]:=h j hj
def aZ.w1 {w:World}{b o:Nat}{x0:Value}(h:aZ w b o [x0]):w.cell? ⟨b,o,none⟩=some x0:=h 0 zm
def aZ.w2 {w:World}{b o:Nat}{x0 x1:Value}(h:aZ w b o [x0,x1]):w.cell? ⟨b,o,none⟩=some x0/\w.cell? ⟨b,o+1,none⟩=some x1:=⟨h 0 zm,h 1 zm⟩
def aZ.w3 {w:World}{b o:Nat}{x0 x1 x2:Value}(h:aZ w b o [x0,x1,x2]):w.cell? ⟨b,o,none⟩=some x0/\w.cell? ⟨b,o+1,none⟩=some x1/\w.cell? ⟨b,o+2,none⟩=some x2:=⟨h 0 zm,h 1 zm,h 2 zm⟩
def aZ.w4 {w:World}{b o:Nat}{x0 x1 x2 x3:Value}(h:aZ w b o [x0,x1,x2,x3]):w.cell? ⟨b,o,none⟩=some x0/\w.cell? ⟨b,o+1,none⟩=some x1/\w.cell? ⟨b,o+2,none⟩=some x2/\w.cell? ⟨b,o+3,none⟩=some x3:=⟨h 0 zm,h 1 zm,h 2 zm,h 3 zm⟩
def aZ.below {w w':World}{b o:Nat}{cs:List Value}(h:aZ w b o cs)(hb:Bw w w'):aZ w' b o cs:=λj hj=>cell_later hb (h j hj)
instance {w :World} {b o:Nat} {cs:List Value}:QTr (aZ w b o cs) w (λW=>aZ W b o cs):=⟨λh _ k=>aZ.below h k⟩
instance {w :World} {b o:Nat} {x:Value} {l:List Value}:QLz (aZ w b o (x::l)) (b<w.heap.size):=⟨λh=>World.block_lt_of_cell? w _ (h 0 zm)⟩
instance {w :World} {b o:Nat} {x:Value}:QCe (aZ w b o [x]) (w.cell? ⟨b,o,none⟩=some x):=⟨λh=>h.w1⟩
instance {w :World} {b o:Nat} {x y:Value}:QCe (aZ w b o [x,y]) (w.cell? ⟨b,o,none⟩=some x/\w.cell? ⟨b,o+1,none⟩=some y):=⟨λh=>h.w2⟩
instance {w :World} {b o:Nat} {x y z:Value}:QCe (aZ w b o [x,y,z]) (w.cell? ⟨b,o,none⟩=some x/\w.cell? ⟨b,o+1,none⟩=some y/\w.cell? ⟨b,o+2,none⟩=some z):=⟨λh=>h.w3⟩
instance {w :World} {b o:Nat} {x y z u:Value}:QCe (aZ w b o [x,y,z,u]) (w.cell? ⟨b,o,none⟩=some x/\w.cell? ⟨b,o+1,none⟩=some y/\w.cell? ⟨b,o+2,none⟩=some z/\w.cell? ⟨b,o+3,none⟩=some u):=⟨λh=>h.w4⟩
instance {w :World} {b o:Nat} {x0 x1 x2 x3 x4:Value}:QCe (aZ w b o [x0,x1,x2,x3,x4]) (w.cell? ⟨b,o,none⟩=some x0/\w.cell? ⟨b,o+1,none⟩=some x1/\w.cell? ⟨b,o+2,none⟩=some x2/\w.cell? ⟨b,o+3,none⟩=some x3/\w.cell? ⟨b,o+4,none⟩=some x4):=⟨λh=>⟨h 0 zm,h 1 zm,h 2 zm,h 3 zm,h 4 zm⟩⟩
instance {w :World} {b o:Nat} {x0 x1 x2 x3 x4 x5:Value}:QCe (aZ w b o [x0,x1,x2,x3,x4,x5]) (w.cell? ⟨b,o,none⟩=some x0/\w.cell? ⟨b,o+1,none⟩=some x1/\w.cell? ⟨b,o+2,none⟩=some x2/\w.cell? ⟨b,o+3,none⟩=some x3/\w.cell? ⟨b,o+4,none⟩=some x4/\w.cell? ⟨b,o+5,none⟩=some x5):=⟨λh=>⟨h 0 zm,h 1 zm,h 2 zm,h 3 zm,h 4 zm,h 5 zm⟩⟩
instance {w :World} {b o:Nat} {x0 x1 x2 x3 x4 x5 x6:Value}:QCe (aZ w b o [x0,x1,x2,x3,x4,x5,x6]) (w.cell? ⟨b,o,none⟩=some x0/\w.cell? ⟨b,o+1,none⟩=some x1/\w.cell? ⟨b,o+2,none⟩=some x2/\w.cell? ⟨b,o+3,none⟩=some x3/\w.cell? ⟨b,o+4,none⟩=some x4/\w.cell? ⟨b,o+5,none⟩=some x5/\w.cell? ⟨b,o+6,none⟩=some x6):=⟨λh=>⟨h 0 zm,h 1 zm,h 2 zm,h 3 zm,h 4 zm,h 5 zm,h 6 zm⟩⟩
instance {w :World} {b o:Nat} {x0 x1 x2 x3 x4 x5 x6 x7:Value}:QCe (aZ w b o [x0,x1,x2,x3,x4,x5,x6,x7]) (w.cell? ⟨b,o,none⟩=some x0/\w.cell? ⟨b,o+1,none⟩=some x1/\w.cell? ⟨b,o+2,none⟩=some x2/\w.cell? ⟨b,o+3,none⟩=some x3/\w.cell? ⟨b,o+4,none⟩=some x4/\w.cell? ⟨b,o+5,none⟩=some x5/\w.cell? ⟨b,o+6,none⟩=some x6/\w.cell? ⟨b,o+7,none⟩=some x7):=⟨λh=>⟨h 0 zm,h 1 zm,h 2 zm,h 3 zm,h 4 zm,h 5 zm,h 6 zm,h 7 zm⟩⟩
def kW {w w':World}{b o:Nat}{cs:List Value}(h:Hid (aZ w b o cs))(k:Bw w w'):Hid (aZ w' b o cs):=h.out.below k
def aZ.aGq {w:World}{b o:Nat}{cs:List Value}(h:aZ w b o cs)(a:Addr)(hne:b≠a.block)(u:Value):aZ (w.setCell a u) b o cs:=λj hj=>gZ hne (h j hj)
def kSx {w w':World}{b c p o:Nat}{cs vs:List Value}(h:Hid (aZ w b c cs))(k:aV w p o vs w')(n:p≠b):Hid (aZ w' b c cs):=by
 have g:∀(vs:List Value) (o:Nat) (w:World),aZ w b c cs->aZ (xg p o vs w) b c cs:=by
  intro vs;induction vs with
  |nil=>intro o w h;exact h
  |cons v vs ih=>intro o w h;exact ih _ _ (aZ.aGq h ⟨p,o,none⟩ (λe=>n e.symm) v)
 rcases k with rfl|rfl
 . exact g vs o _ h.out
 . exact g vs o w.drew h.out
instance {w :World} {b c k o:Nat} {cs vs:List Value}:QSto (aZ w c k cs) w b o vs (λW=>aZ W c k cs) (b≠c):=⟨λh _ g n=>(kSx (aj h) g n).out⟩
def aZ.num {w:World}{b:Nat}{t:TypeId}{ds:List Dyadic}(h:ar w b t (dC ds))(i:Nat)(hi:i<ds.length):aZ w b (i*3) [ag (az (dN ds[i])),ah (nt (dN ds[i]).natAbs),af (dE ds[i])]:=by
 intro j hj;have Ol:j<3:=hj;rw[h.cell];have:=flat_get (λd=>bu (canon d)) 3 (λ_=>rfl) ds i j hi Ol;unfold dC;rw[this];rcases j with _|_|_|j
 . rfl
 . rfl
 . rfl
 . omega
def Te (ds:List Dyadic)(i:Nat)(D:Dyadic):(((dC ds).set (i*3) (ag (az (dN D)))).set (i*3+1) (ah (nt (dN D).natAbs))).set (i*3+2) (af (dE D))=dC (ds.set i D):=by
 induction ds generalizing i with
 |nil=>simp[dC]
 | cons x ds ih=>
   have e:∀y:Dyadic,∀zs,dC (y::zs)=ag (az (dN y))::ah (nt (dN y).natAbs)::af (dE y)::dC zs:=λy zs=>rfl;cases i with
   |zero=>rw[e];rfl
   |succ i=>rw[List.set_cons_succ,e,e,<-ih i,show(i+1) *3=i*3+1+1+1 by omega];rfl
def aC.lt {w:World}(h:aC w):0<w.heap.size:=World.block_lt_of_cell? w _ (h 0 zd)
def sf (ds:List Dyadic):dC ds=(ds.map canon).flatMap bu:=by unfold dC;rw[List.flatMap_map]
def dX {P:Program}{fn:Func}{R:Ending->World->Prop}{e:Exit}{a:Act}{W:World}(S:World->Prop)(hS:S W)(h:∀W',S W'->bodyPost P fn R e a W'):bodyPost P fn R e a W:=h W hS
def ar.not_row {W:World}{B:Nat}{t e:TypeId}{cs:List Value}(h:ar W B t cs)(hte:t≠e){base size k:Nat}{v:Value}{xs:List Value}(hr:W.ownsRow base e size v k xs):some B≠v.ownBlock:=by
 rcases hr.2 with⟨rfl,_⟩ |⟨g,cap,cur,rfl,_,hgb,_⟩
 . simp[Value.ownBlock]
 . intro e';simp only[Value.ownBlock,Option.some.injEq]at e';subst e';have:=h.symm.trans hgb;simp at this;exact hte this.2
def ar.row {W W':World}{B:Nat}{t e:TypeId}{cs:List Value}(h:ar W B t cs)(hte:t≠e){base size k:Nat}{v:Value}{xs:List Value}(hr:W.ownsRow base e size v k xs)(hg:W.grownBy W' v.ownBlock):ar W' B t cs:=
 h.grown hg (h.not_row hte hr)
def ownsRow_below {W W':World}{base:Nat}{e:TypeId}{size:Nat}{v:Value}{n:Nat}{xs:List Value}(h:W.ownsRow base e size v n xs)(hb:Bw W W'):W'.ownsRow base e size v n xs:=by refine Pn (Y:=λ_=>False) h (Chg.of_below hb) (λ_ _ h=>h)
def eo {W:World}{base:Nat}{e:TypeId}{size:Nat}{v:Value}{n:Nat}{xs:List Value}(h:W.ownsRow base e size v n xs):∀k,v.ownBlock=some k->base<=k:=λk hk=>(h.lt k hk).1
def kE {w:World}{b o:Nat}{x y z:Value}(h0:w.cell? ⟨b,o,none⟩=some x)(h1:w.cell? ⟨b,o+1,none⟩=some y)(h2:w.cell? ⟨b,o+2,none⟩=some z):aZ w b o [x,y,z]:=by
 intro j hj;rcases j with _|_|_|j
 . exact h0
 . exact h1
 . exact h2
 . simp at hj;omega
def ji {W:World}{b:Nat}{t:TypeId}{cs:List Value}(h:ar W b t cs):∀j u,cs[j]?=some u->W.cell? ((⟨b,0,none⟩:Addr).add j)=some u:=by
 intro j u hj;have e2:((⟨b,0,none⟩:Addr).add j)=⟨b,j,none⟩:=by simp[Addr.add];omega
 rw[e2,h.cell];exact hj
def At.num {W:World}{a:Option Addr}{aS:List Raw}(h:At W a (aS.flatMap bu))(k:Nat)(hk:k<aS.length){s:Bool}{m:List UInt8}{e:Int}(hx:aS[k]=(s,m,e)):
 ∃b o,a=some ⟨b,o,none⟩/\W.cell? ⟨b,o+k*3,none⟩=some (ag s)/\W.cell? ⟨b,o+k*3+1,none⟩=some (ah m)/\W.cell? ⟨b,o+k*3+2,none⟩=some (af e):=by
 obtain⟨b,o,ha,hc⟩:=h.elem (f:=bu) (sz:=3) (λ_=>rfl) zd k hk;rw[hx]at hc;exact⟨b,o,ha,by simpa[bu]using hc 0 zd,by simpa[bu]using hc 1 zd,by simpa[bu]using hc 2 zd⟩
def uT {B:Nat}{cs:List Dyadic}(h:∀c∈cs,Sm B c)(k:Nat):Sm B (cs.getD k 0):=by
 by_cases hk:k<cs.length
 . have:cs.getD k 0=cs[k]:=by simp[hk]
   rw[this];exact h _ (List.getElem_mem hk)
 . have:cs.getD k 0=0:=by simp[List.getD_eq_getElem?_getD,List.getElem?_eq_none (by omega:cs.length<=k)]
   rw[this];exact Sm.zero B
end Go.Proofs.YtbkopgdpcijfbaaGreatDoor
namespace Go.Proofs.YtbkopgdpcijfbaaGreatDoor
def sumTo (f:Nat->Dyadic):Nat->Dyadic
 |0=>0
 |n+1=>sumTo f n+f n
def sumTo_congr {f g:Nat->Dyadic}(n:Nat)(h:∀k,k<n->f k=g k):sumTo f n=sumTo g n:=by
 induction n with
 |zero=>rfl
 |succ n ih=>rw[sumTo,sumTo,ih (λk hk=>h k zo),h n zo]
def yN (f g:Nat->Dyadic)(n:Nat):sumTo (λk=>f k+g k) n=sumTo f n+sumTo g n:=by
 induction n with
 |zero=>simp only[sumTo];grind
 |succ n ih=>simp only[sumTo,ih];grind
def XP (f g:Nat->Dyadic)(n:Nat):sumTo (λk=>f k-g k) n=sumTo f n-sumTo g n:=by
 induction n with
 |zero=>simp only[sumTo];grind
 |succ n ih=>simp only[sumTo,ih];grind
def iB (c:Dyadic)(f:Nat->Dyadic)(n:Nat):sumTo (λk=>c*f k) n=c*sumTo f n:=by
 induction n with
 |zero=>simp only[sumTo];grind
 |succ n ih=>simp only[sumTo,ih];grind
def KR (n:Nat):sumTo (λ_=>0) n=0:=by
 induction n with
 |zero=>rfl
 |succ n ih=>rw[sumTo,ih];grind
def XQ (f:Nat->Nat->Dyadic)(m n:Nat):sumTo (λj=>sumTo (λk=>f j k) n) m=sumTo (λk=>sumTo (λj=>f j k) m) n:=by
 induction m with
 |zero=>simp only[sumTo,KR]
 |succ m ih=>simp only[sumTo,ih,yN]
def az4 (f:Nat->Dyadic)(n:Nat):sumTo f (n+1)=f 0+sumTo (λk=>f (k+1)) n:=by
 induction n with
 |zero=>simp only[sumTo];grind
 |succ n ih=>rw[sumTo,ih,sumTo];grind
def Kj {α:Type}(i n:Nat)(h:n≠i)(a b:α):(if i<n+1 then a else b)=if i<n then a else b:=by
 by_cases h1:i<n
 . rw[if_pos h1,if_pos zo]
 . rw[if_neg h1,if_neg zo]
def az6 (D:Nat->Dyadic)(i j:Nat)(hij:i≠j)(n:Nat)(h:∀k,k≠i->k≠j->D k=0):
 sumTo D n=(if i<n then D i else 0)+(if j<n then D j else 0):=by
 induction n with
 |zero=>simp only[sumTo,Nat.not_lt_zero,if_false];grind
 | succ n ih=>
   rw[sumTo,ih];by_cases h1:n=i
   . subst h1;rw[Kj j n hij,if_neg (Nat.lt_irrefl n),if_pos (Nat.lt_succ_self n)];grind
   . by_cases h2:n=j
     . subst h2;rw[Kj i n (λe=>hij e.symm),if_neg (Nat.lt_irrefl n),if_pos (Nat.lt_succ_self n)];grind
     . rw[Kj i n h1,Kj j n h2,h n h1 h2];grind
def az5 {f g:Nat->Dyadic}(i j n:Nat)(hij:i≠j)(hi:i<n)(hj:j<n)(h:∀k,k<n->k≠i->k≠j->f k=g k)(h2:f i+f j=g i+g j):sumTo f n=sumTo g n:=by
 have h3:=az6 (λk=>if k<n then f k-g k else 0) i j hij n (λk h1 h2=>by
  split
  . rename_i hk;rw[h k hk h1 h2];grind
  . rfl)
 rw[if_pos hi,if_pos hj,if_pos hi,if_pos hj]at h3;rw[sumTo_congr (g:=λk=>f k-g k) n (λk hk=>by rw[if_pos hk]),XP]at h3;grind
def ch :Nat->Nat->Nat
 |_,0=>1
 |0,_+1=>0
 |n+1,k+1=>ch n k+ch n (k+1)
def MD (n k:Nat)(h:n<k):ch n k=0:=by
 induction n generalizing k with
 | zero=>cases k with
   |zero=>omega
   |succ k=>rfl
 | succ n ih=>cases k with
   |zero=>omega
   |succ k=>rw[ch,ih k zo,ih (k+1) zo]
def wm (n:Nat):ch n 0=1:=by cases n<;>rfl
def fY (n k:Nat):Dyadic:=Dyadic.ofIntWithPrec (ch n k:Nat) 0
def apX (n:Nat):fY n 0=1:=by unfold fY;rw[wm];rfl
def mh (x:List Nat)(k:Nat):List Nat:=x.set k (x.getD k 0+1)
def mv (x:List Nat)(i j t:Nat):List Nat:=(x.set i (x.getD i 0-t)).set j (x.getD j 0+t)
def Ki (x:List Nat)(k:Nat):(mh x k).length=x.length:=by simp[mh]
def lv (x:List Nat)(i j t:Nat):(mv x i j t).length=x.length:=by simp[mv]
def xX (x:List Nat)(i k v:Nat)(hi:i<x.length):(x.set i v).getD k 0=if i=k then v else x.getD k 0:=by
 rw[List.getD_eq_getElem?_getD,List.getD_eq_getElem?_getD,List.getElem?_set];by_cases h:i=k
 . rw[if_pos h,if_pos h,if_pos hi];rfl
 . rw[if_neg h,if_neg h]
def TI (x:List Nat)(k l:Nat)(hk:k<x.length):(mh x k).getD l 0=if k=l then x.getD l 0+1 else x.getD l 0:=by
 unfold mh;rw[xX _ _ _ _ hk];split
 . rename_i h;rw[h]
 . rfl
def ry (x:List Nat)(i j t l:Nat)(aCv:i≠j)(hi:i<x.length)(hj:j<x.length):(mv x i j t).getD l 0=if j=l then x.getD l 0+t else if i=l then x.getD l 0-t else x.getD l 0:=by
 unfold mv;rw[xX _ _ _ _ (by simpa using hj),xX _ _ _ _ hi];by_cases h:j=l
 . rw[if_pos h,if_pos h,h]
 . rw[if_neg h,if_neg h];by_cases h2:i=l
   . rw[if_pos h2,if_pos h2,h2]
   . rw[if_neg h2,if_neg h2]
def zQ {x y:List Nat}(hl:x.length=y.length)(h:∀l,l<x.length->x.getD l 0=y.getD l 0):x=y:=by apply List.ext_getElem hl;intro l h1 h2;have:=h l h1;simpa[h1,h2]using this
def mV (i j:Nat)(g:List Nat->Dyadic)(x:List Nat):Dyadic:=sumTo (λt=>fY (x.getD i 0) t*hp (x.getD j 0+t) *g (mv x i j t)) (x.getD i 0+1)
def Da (D:Nat->Dyadic)(q n:Nat)(hq:q<n)(h:∀k,k<n->k≠q->D k=0):sumTo D n=D q:=by
 have key:∀m,m<=n->sumTo D m=if q<m then D q else 0:=by
  intro m;induction m with
  |zero=>intro _;simp[sumTo]
  | succ m ih=>
    intro hm;rw[sumTo,ih zo];by_cases h1:m=q
    . subst h1;rw[if_neg (Nat.lt_irrefl _),if_pos (Nat.lt_succ_self _)];grind
    . rw[h m zo h1];rw[Kj q m h1];grind
 rw[key n (Nat.le_refl _),if_pos hq]
def Ks {α:Type}{l:List α}(h:l.Nodup){i j:Nat}{hi:i<l.length}{hj:j<l.length}(e:l[i]=l[j]):i=j:=by
 have h2:=List.pairwise_iff_getElem.1 h;rcases Nat.lt_trichotomy i j with h1|h1|h1
 . exact absurd e (h2 i j hi hj h1)
 . exact h1
 . exact absurd e.symm (h2 j i hj hi h1)
abbrev iw:=List (List Nat×Dyadic)
def mA (g:List Nat->Dyadic):iw->Dyadic
 |[]=>0
 |p::ps=>p.2*g p.1+mA g ps
def aii (g:List Nat->Dyadic)(a b:iw):mA g (a++b)=mA g a+mA g b:=by
 induction a with
 |nil=>simp only[List.nil_append,mA];grind
 |cons p a ih=>simp only[List.cons_append,mA,ih];grind
def axE (g:List Nat->Dyadic)(r:Nat->List Nat)(c:Nat->Dyadic)(n:Nat):mA g ((List.range n).map λk=>(r k,c k))=sumTo (λk=>c k*g (r k)) n:=by
 induction n with
 |zero=>rfl
 |succ n ih=>rw[List.range_succ,List.map_append,aii,ih,sumTo];simp only[List.map_cons,List.map_nil,mA];grind
def axD (g:List Nat->Dyadic)(P:Nat->iw)(n:Nat):mA g ((List.range n).flatMap P)=sumTo (λk=>mA g (P k)) n:=by
 induction n with
 |zero=>rfl
 |succ n ih=>rw[List.range_succ,List.flatMap_append,aii,ih,sumTo];simp only[List.flatMap_cons,List.flatMap_nil,List.append_nil]
def delta (r x:List Nat):Dyadic:=if x=r then 1 else 0
def uN (ps:iw)(r:List Nat):Dyadic:=mA (delta r) ps
def zipE (h:List Nat->Dyadic)(R:List (List Nat))(cs:List Dyadic):Dyadic:=sumTo (λk=>cs.getD k 0*h (R.getD k [])) R.length
def aka {g h:List Nat->Dyadic}(R:List (List Nat))(cs:List Dyadic)(hg:∀x∈R,g x=h x):zipE g R cs=zipE h R cs:=by refine sumTo_congr _ (λk hk=>?_);rw[hg _ (by simp[hk])]
def aBR (h:List Nat->Dyadic)(R:List (List Nat))(hn:R.Nodup)(ps:iw)(hp:∀p∈ps,p.1∈R):zipE h R (R.map (uN ps))=mA h ps:=by
 have e:zipE h R (R.map (uN ps))=sumTo (λk=>uN ps (R.getD k []) *h (R.getD k [])) R.length:=by refine sumTo_congr _ (λk hk=>?_);simp[hk]
 rw[e];clear e;induction ps with
 |nil=>rw[sumTo_congr (g:=λ_=>0) _ (λk _=>by simp only[uN,mA];grind),KR];rfl
 | cons p ps ih=>
   rw[sumTo_congr (g:=λk=>p.2* (delta (R.getD k []) p.1*h (R.getD k []))+uN ps (R.getD k []) *h (R.getD k [])) _ (λk _=>by simp only[uN,mA];grind),yN,ih (λq hq=>hp q (by simp[hq])),iB];obtain⟨q,hq,Cx⟩:=List.mem_iff_getElem.1 (hp p zm)
   rw[Da _ q _ hq (λk hk hne=>by
    unfold delta;have:p.1≠R.getD k []:=by
     rw[<-Cx];have e1:R.getD k []=R[k]:=by simp[hk]
     rw[e1];intro e2;exact hne (Ks hn e2).symm
    rw[if_neg this];grind)]
   have e1:R.getD q []=p.1:=by simp[hq,Cx]
   rw[e1];unfold delta;rw[if_pos rfl];simp only[mA];grind
def rC (i j:Nat)(x:List Nat)(c:Dyadic):iw:=(List.range (x.getD i 0+1)).map λt=>(mv x i j t,c*fY (x.getD i 0) t*hp (x.getD j 0+t))
def uY (i j:Nat)(R:List (List Nat))(cs:List Dyadic):iw:=(List.range R.length).flatMap λk=>rC i j (R.getD k []) (cs.getD k 0)
def axF (i j:Nat)(g:List Nat->Dyadic)(R:List (List Nat))(cs:List Dyadic):mA g (uY i j R cs)=zipE (mV i j g) R cs:=by unfold uY;rw[axD];refine sumTo_congr _ (λk _=>?_);unfold rC;rw[axE];unfold mV;rw[<-iB];refine sumTo_congr _ (λt _=>?_);grind
def kN (R:List (List Nat))(ps:iw):List Dyadic:=R.map (uN ps)
def ab3 (R:List (List Nat))(ps:iw):(kN R ps).length=R.length:=by simp[kN]
def PI (x:List Nat)(k v:Nat)(hk:k<x.length):(x.set k v).sum+x.getD k 0=x.sum+v:=by
 induction x generalizing k with
 |nil=>simp at hk
 | cons a x ih=>
   cases k with
   |zero=>simp;omega
   |succ k=>have:=ih k (by simpa using hk);simp at this⊢;omega
def xW (x:List Nat)(k:Nat):x.getD k 0<=x.sum:=by
 induction x generalizing k with
 |nil=>simp
 | cons a x ih=>
   cases k with
   |zero=>simp
   |succ k=>have:=ih k;simp at this⊢;omega
def ac6 (x:List Nat)(k l:Nat)(h:k≠l):x.getD k 0+x.getD l 0<=x.sum:=by
 induction x generalizing k l with
 |nil=>simp
 | cons a x ih=>
   cases k with
   | zero=>cases l with
     |zero=>omega
     |succ l=>have:=xW x l;simp at this⊢;omega
   | succ k=>cases l with
     |zero=>have:=xW x k;simp at this⊢;omega
     |succ l=>have:=ih k l zo;simp at this⊢;omega
def ag4 (x:List Nat)(k:Nat)(hk:k<x.length):(mh x k).sum=x.sum+1:=by have:=PI x k (x.getD k 0+1) hk;unfold mh;omega
def WL (x:List Nat)(i j t:Nat)(hij:i≠j)(hi:i<x.length)(hj:j<x.length)(ht:t<=x.getD i 0):(mv x i j t).sum=x.sum:=by have h1:=PI x i (x.getD i 0-t) hi;have h2:=PI (x.set i (x.getD i 0-t)) j (x.getD j 0+t) (by simpa using hj);rw[xX _ _ _ _ hi,if_neg hij]at h2;unfold mv;omega
def dec (x:List Nat)(k:Nat):List Nat:=x.set k (x.getD k 0-1)
def nD (n:Nat):Dyadic:=Dyadic.ofIntWithPrec (n:Nat) 0
def wU :nD 0=0:=vE 0
def ahU :nD 1=1:=rfl
def WM (a b:Nat):nD (a+b)=nD a+nD b:=by unfold nD;rw[uh];simp
def Fb (a b:Nat):nD (a*b)=nD a*nD b:=by unfold nD;rw[ui];simp
def MC (n k:Nat):fY n k=nD (ch n k):=rfl
def MF (a t:Nat):ch (a+1) (t+1) * (t+1)=(a+1) *ch a t:=by
 induction a generalizing t with
 | zero=>
   cases t with
   |zero=>rfl
   |succ t=>have h1:=MD 0 (t+1) zo;have h2:=MD (0+1) (t+1+1) zo;rw[h1,h2];simp
 | succ a ih=>
   rw[ch];cases t with
   |zero=>rw[wm,Nat.mul_one,Nat.mul_one];have:=ih 0;rw[wm]at this;omega
   | succ t=>
     have h1:=ih t;have h2:=ih (t+1);have h3:ch (a+1) (t+1)=ch a t+ch a (t+1):=by rw[ch]
     rw[h3]at h1⊢;generalize ch a t=p at*;generalize ch a (t+1)=q at*;generalize ch (a+1) (t+1+1)=r at*;simp only[Nat.add_mul,Nat.mul_add,Nat.one_mul,Nat.mul_one]at*;omega
def apY (a t:Nat)(h:t<=a):ch (a+1) t* (a+1-t)=(a+1) *ch a t:=by
 cases t with
 |zero=>rw[wm,wm,Nat.one_mul,Nat.mul_one,Nat.sub_zero]
 | succ t=>
   have h1:=MF a t;have h2:ch (a+1) (t+1)=ch a t+ch a (t+1):=by rw[ch]
   obtain⟨s,rfl⟩:∃s,a=t+1+s:=⟨a-(t+1),by omega⟩;rw[show t+1+s+1-(t+1)=s+1 by omega];rw[h2]at h1⊢;generalize ch (t+1+s) t=p at*;generalize ch (t+1+s) (t+1)=q at*;simp only[Nat.add_mul,Nat.mul_add,Nat.one_mul,Nat.mul_one]at*;have c1:=Nat.mul_comm t p;have c2:=Nat.mul_comm s p;have c3:=Nat.mul_comm t q;have c4:=Nat.mul_comm s q;omega
def lN (x:List Nat)(k:Nat):(dec x k).length=x.length:=by simp[dec]
def rq (x:List Nat)(k l:Nat)(hk:k<x.length):(dec x k).getD l 0=if k=l then x.getD l 0-1 else x.getD l 0:=by
 unfold dec;rw[xX _ _ _ _ hk];split
 . rename_i h;rw[h]
 . rfl
def af5 (k:Nat):hp (k+1)=hp 1*hp k:=by unfold hp;rw[ui,Int.mul_one];congr 1;omega
def ki (u:Nat->Dyadic)(g:List Nat->Dyadic)(x:List Nat):Dyadic:=sumTo (λl=>u l* (nD (x.getD l 0) *g (dec x l))) x.length
def polG :List (Nat->Dyadic)->List Nat->Dyadic
 |[]=>λ_=>1
 |u::U=>ki u (polG U)
def iV (i j:Nat)(u:Nat->Dyadic)(l:Nat):Dyadic:=if l=j then u j*hp 1 else if l=i then u i+u j*hp 1 else u l
def atq (i j:Nat)(u:Nat->Dyadic)(g:List Nat->Dyadic)(x:List Nat)(hij:i≠j)(hi:i<x.length)(hj:j<x.length):mV i j (ki u g) x=ki (iV i j u) (mV i j g) x:=by
 obtain⟨a,ha⟩:=aB (x.getD i 0);obtain⟨b,hb⟩:=aB (x.getD j 0);have hL:mV i j (ki u g) x=sumTo (λl=>sumTo (λt=>fY a t*hp (b+t) * (u l* (nD ((mv x i j t).getD l 0) *g (dec (mv x i j t) l)))) (a+1)) x.length:=by unfold mV;rw[ha,hb];rw[sumTo_congr (g:=λt=>sumTo (λl=>fY a t*hp (b+t) * (u l* (nD ((mv x i j t).getD l 0) *g (dec (mv x i j t) l)))) x.length) (a+1) (λt _=>by unfold ki;rw[lv,iB])];exact XQ _ _ _
 rw[hL];unfold ki;refine az5 i j x.length hij hi hj (λl hl h1 h2=>?_) ?_
 . show _=iV i j u l*_
   have e1:iV i j u l=u l:=by unfold iV;rw[if_neg h2,if_neg h1]
   rw[e1];unfold mV;rw[rq _ _ _ hl,rq _ _ _ hl,if_neg h1,if_neg h2,ha,hb];rw[<-iB,<-iB];refine sumTo_congr _ (λt ht=>?_);rw[ry _ _ _ _ _ hij hi hj,if_neg (λh=>h2 h.symm),if_neg (λh=>h1 h.symm)];have e2:dec (mv x i j t) l=mv (dec x l) i j t:=by
    refine zQ (by simp only[lN,lv]) (λk hk=>?_);rw[rq _ _ _ (by rw[lv];exact hl),ry _ _ _ _ _ hij hi hj,ry _ _ _ _ _ hij (by rw[lN];exact hi) (by rw[lN];exact hj),rq _ _ _ hl];by_cases e1:l=k
    . subst e1;rw[if_pos rfl,if_neg (λh=>h2 h.symm),if_neg (λh=>h1 h.symm),if_neg (λh=>h2 h.symm),if_neg (λh=>h1 h.symm),if_pos rfl]
    . simp only[e1,if_false]
   rw[e2];grind
 . obtain⟨K,hK⟩:∃K:Nat->Nat->Dyadic,K=λp q=>g ((x.set i p).set j q):=⟨_,rfl⟩;have lW:∀p q k,((x.set i p).set j q).getD k 0=if j=k then q else if i=k then p else x.getD k 0:=λp q k=>by rw[xX _ _ _ _ (by simpa using hj),xX _ _ _ _ hi]
   have NZ:∀(y:List Nat) p q,y.length=x.length->(∀k,k<x.length->y.getD k 0=if j=k then q else if i=k then p else x.getD k 0)->g y=K p q:=λy p q h1 h2=>by
    rw[hK];show g y=g _
    congr 1;exact zQ (by simp[h1]) (λk hk=>by rw[lW];exact h2 k (by rw[<-h1];exact hk))
   have hi':x.getD i 0=a:=ha;have c1:∀t,g (dec (mv x i j t) i)=K (a-t-1) (b+t):=λt=>NZ _ _ _ (by rw[lN,lv]) λk hk=>by
    rw[rq _ _ _ (by rw[lv];exact hi),ry _ _ _ _ _ hij hi hj];by_cases h1:j=k
    . subst h1;rw[if_neg hij,if_pos rfl,if_pos rfl,hb]
    . by_cases h2:i=k
      . subst h2;rw[if_pos rfl,if_neg h1,if_pos rfl,if_neg h1,if_pos rfl,ha]
      . simp only[h1,h2,if_false]
   have c2:∀t,g (dec (mv x i j t) j)=K (a-t) (b+t-1):=λt=>NZ _ _ _ (by rw[lN,lv]) λk hk=>by
    rw[rq _ _ _ (by rw[lv];exact hj),ry _ _ _ _ _ hij hi hj];by_cases h1:j=k
    . subst h1;rw[if_pos rfl,if_pos rfl,if_pos rfl,hb]
    . by_cases h2:i=k
      . subst h2;simp only[h1,if_false,if_true,ha]
      . simp only[h1,h2,if_false]
   have c3:∀t,g (mv (dec x i) i j t)=K (a-1-t) (b+t):=λt=>NZ _ _ _ (by rw[lv,lN]) λk hk=>by
    rw[ry _ _ _ _ _ hij (by rw[lN];exact hi) (by rw[lN];exact hj),rq _ _ _ hi];by_cases h1:j=k
    . subst h1;rw[if_pos rfl,if_pos rfl,if_neg hij,hb]
    . by_cases h2:i=k
      . subst h2;simp only[h1,if_false,if_true,ha]
      . simp only[h1,h2,if_false]
   have c4:∀t,g (mv (dec x j) i j t)=K (a-t) (b-1+t):=λt=>NZ _ _ _ (by rw[lv,lN]) λk hk=>by
    rw[ry _ _ _ _ _ hij (by rw[lN];exact hi) (by rw[lN];exact hj),rq _ _ _ hj];by_cases h1:j=k
    . subst h1;rw[if_pos rfl,if_pos rfl,if_pos rfl,hb]
    . by_cases h2:i=k
      . subst h2;simp only[h1,if_false,if_true,ha]
      . simp only[h1,h2,if_false]
   have d1:∀t,(mv x i j t).getD i 0=a-t:=λt=>by rw[ry _ _ _ _ _ hij hi hj,if_neg (λh=>hij h.symm),if_pos rfl,ha]
   have d2:∀t,(mv x i j t).getD j 0=b+t:=λt=>by rw[ry _ _ _ _ _ hij hi hj,if_pos rfl,hb]
   have u1:iV i j u i=u i+u j*hp 1:=by unfold iV;rw[if_neg hij,if_pos rfl]
   have u2:iV i j u j=u j*hp 1:=by unfold iV;rw[if_pos rfl]
   have g1:mV i j g (dec x i)=sumTo (λt=>fY (a-1) t*hp (b+t) *K (a-1-t) (b+t)) (a-1+1):=by unfold mV;rw[rq _ _ _ hi,rq _ _ _ hi,if_pos rfl,if_neg hij,ha,hb];exact sumTo_congr _ (λt _=>by rw[c3])
   have g2:mV i j g (dec x j)=sumTo (λt=>fY a t*hp (b-1+t) *K (a-t) (b-1+t)) (a+1):=by unfold mV;rw[rq _ _ _ hj,rq _ _ _ hj,if_neg (λh=>hij h.symm),if_pos rfl,ha,hb];exact sumTo_congr _ (λt _=>by rw[c4])
   show sumTo (λt=>fY a t*hp (b+t) * (u i* (nD ((mv x i j t).getD i 0) *g (dec (mv x i j t) i)))) (a+1)+sumTo (λt=>fY a t*hp (b+t) * (u j* (nD ((mv x i j t).getD j 0) *g (dec (mv x i j t) j)))) (a+1)=iV i j u i* (nD (x.getD i 0) *mV i j g (dec x i))+iV i j u j* (nD (x.getD j 0) *mV i j g (dec x j))
   rw[u1,u2,ha,hb,g1,g2];rw[sumTo_congr (g:=λt=>u i* (fY a t*nD (a-t) * (hp (b+t) *K (a-t-1) (b+t)))) (a+1) (λt _=>by rw[d1,c1];grind),iB];rw[sumTo_congr (f:=λt=>fY a t*hp (b+t) * (u j* (nD ((mv x i j t).getD j 0) *g (dec (mv x i j t) j)))) (g:=λt=>u j* (fY a t*hp (b+t) *nD b*K (a-t) (b+t-1))+u j* (fY a t*nD t* (hp (b+t) *K (a-t) (b+t-1)))) (a+1) (λt _=>by rw[d2,c2,WM];grind),yN,iB,iB];have s1:sumTo (λt=>fY a t*nD (a-t) * (hp (b+t) *K (a-t-1) (b+t))) (a+1)=nD a*sumTo (λt=>fY (a-1) t*hp (b+t) *K (a-1-t) (b+t)) (a-1+1):=by
    cases a with
    |zero=>rw[wU];show(0:Dyadic)+fY 0 0*nD 0*_=_;rw[wU];grind
    | succ a=>
      rw[<-iB,sumTo,Nat.sub_self,wU]
      rw[sumTo_congr (g:=λt=>nD (a+1) * (fY a t*hp (b+t) *K (a-t) (b+t))) (a+1) (λt ht=>by
       have h1:=congrArg nD (apY a t zo);rw[Fb,Fb,<-MC,<-MC]at h1;rw[show a+1-t-1=a-t by omega]
       grind)]
      rw[show a+1-1=a by omega];grind
   have s2:sumTo (λt=>fY a t*nD t* (hp (b+t) *K (a-t) (b+t-1))) (a+1)=hp 1* (nD a*sumTo (λt=>fY (a-1) t*hp (b+t) *K (a-1-t) (b+t)) (a-1+1)):=by
    rw[az4,wU];cases a with
    |zero=>rw[wU];show fY 0 0*0*_+0=_;grind
    | succ a=>
      rw[show a+1-1=a by omega,<-iB,<-iB]
      rw[sumTo_congr (g:=λt=>hp 1* (nD (a+1) * (fY a t*hp (b+t) *K (a-t) (b+t)))) (a+1) (λt ht=>by
       have h1:=congrArg nD (MF a t);rw[Fb,Fb,<-MC,<-MC]at h1;have h2:=af5 (b+t);rw[show b+(t+1)=b+t+1 by omega,h2,show a+1-(t+1)=a-t by omega,show b+t+1-1=b+t by omega]
       grind)]
      grind
   have s3:sumTo (λt=>fY a t*hp (b+t) *nD b*K (a-t) (b+t-1)) (a+1)=hp 1* (nD b*sumTo (λt=>fY a t*hp (b-1+t) *K (a-t) (b-1+t)) (a+1)):=by
    rw[<-iB,<-iB];refine sumTo_congr _ (λt _=>?_);cases b with
    |zero=>rw[wU];grind
    |succ b=>have h2:=af5 (b+t);rw[show b+1-1=b by omega,show b+1+t=b+t+1 by omega,h2,show b+t+1-1=b+t by omega];grind
   rw[s1,s2,s3];grind
def XR (x:List Nat)(k:Nat)(hk:k<x.length)(h:0<x.getD k 0):(dec x k).sum+1=x.sum:=by have:=PI x k (x.getD k 0-1) hk;unfold dec;omega
def acm {u:Nat->Dyadic}{g h:List Nat->Dyadic}{x:List Nat}(hg:∀l,l<x.length->0<x.getD l 0->g (dec x l)=h (dec x l)):ki u g x=ki u h x:=by
 refine sumTo_congr _ λl hl=>?_;by_cases h0:x.getD l 0=0
 . rw[h0,wU];grind
 . rw[hg l hl zo]
def atr (i j n:Nat)(hij:i≠j)(hi:i<n)(hj:j<n)(U:List (Nat->Dyadic))(x:List Nat)(hx:x.length=n)(hs:x.sum=U.length):mV i j (polG U) x=polG (U.map (iV i j)) x:=by
 induction U generalizing x with
 | nil=>
   have h1:=xW x i;have h2:=xW x j;have h3:x.sum=0:=hs;show mV i j (λ_=>1) x=1
   unfold mV;rw[show x.getD i 0=0 by omega,show x.getD j 0=0 by omega];show(0:Dyadic)+fY 0 0*hp (0+0) *1=1
   rw[apX,af6];grind
 | cons u U ih=>
   show mV i j (ki u (polG U)) x=ki (iV i j u) (polG (U.map (iV i j))) x
   rw[atq i j u _ x hij zo zo];refine acm λl hl h0=>?_;have h1:=XR x l hl h0;exact ih (dec x l) (by rw[lN];exact hx) (by simp only[List.length_cons]at hs;omega)
def unE (l k:Nat):Dyadic:=if k=l then 1 else 0
def acn (l:Nat)(g:List Nat->Dyadic)(x:List Nat)(hl:l<x.length):ki (unE l) g x=nD (x.getD l 0) *g (dec x l):=by unfold ki;rw[Da _ l _ hl (λk _ hk=>by unfold unE;rw[if_neg hk];grind)];unfold unE;rw[if_pos rfl];grind
def aqT (u:Nat->Dyadic)(g:List Nat->Dyadic)(x:List Nat):ki u g x=sumTo (λl=>u l*ki (unE l) g x) x.length:=by
 conv=>lhs;unfold ki
 exact sumTo_congr _ λl hl=>by rw[acn l g x hl]
def aqU (p:Nat->Dyadic)(c:Nat->Dyadic)(h:Nat->List Nat->Dyadic)(m:Nat)(x:List Nat):ki p (λy=>sumTo (λl=>c l*h l y) m) x=sumTo (λl=>c l*ki p (h l) x) m:=by
 unfold ki
 rw[sumTo_congr (g:=λk=>sumTo (λl=>c l* (p k* (nD (x.getD k 0) *h l (dec x k)))) m) x.length (λk _=>by
  rw[<-iB,<-iB]
  exact sumTo_congr _ λl _=>by grind),XQ]
 exact sumTo_congr _ λl _=>by rw[iB]
def ax2 (A:List (Nat->Dyadic))(u:Nat->Dyadic)(B:List (Nat->Dyadic))(n:Nat)(x:List Nat)(hx:x.length=n):polG (A++u::B) x=sumTo (λl=>u l*polG (A++unE l::B) x) n:=by
 induction A generalizing x with
 |nil=>subst hx;exact aqT u (polG B) x
 | cons a A ih=>
   show ki a (polG (A++u::B)) x=_
   rw[acm (h:=λy=>sumTo (λl=>u l*polG (A++unE l::B) y) n) (λl _ _=>ih (dec x l) (by rw[lN];exact hx)),aqU];rfl
def gP {x y:Dyadic}(hx:0<=x)(hy:0<=y):0<=x*y:=by rw[<-Dyadic.toRat_le_toRat_iff,Dyadic.toRat_zero]at hx hy⊢;rw[Dyadic.toRat_mul];exact Rat.mul_nonneg hx hy
def cQ :Nat->Nat
 |0=>1
 |n+1=>(n+1) *cQ n
def eY :List Nat->Nat
 |[]=>1
 |a::x=>cQ a*eY x
def arU (x:List Nat)(l:Nat)(hl:l<x.length)(h:0<x.getD l 0):eY x=x.getD l 0*eY (dec x l):=by
 induction x generalizing l with
 |nil=>simp at hl
 | cons a x ih=>
   cases l with
   | zero=>
     obtain⟨b,rfl⟩:∃b,a=b+1:=⟨a-1,by simp at h;omega⟩;show cQ (b+1) *eY x=(b+1) * (cQ (b+1-1) *eY x)
     rw[cQ,Nat.add_sub_cancel,Nat.mul_assoc]
   | succ l=>
     have:=ih l (by simpa using hl) (by simpa using h);show cQ a*eY x=x.getD l 0* (cQ a*eY (dec x l))
     rw[this];rw[Nat.mul_left_comm]
def arV (n:Nat):eY (List.replicate n 0)=1:=by
 induction n with
 |zero=>rfl
 |succ n ih=>rw[List.replicate_succ,eY,ih];rfl
def mr (n:Nat):List Nat->List Nat
 |[]=>List.replicate n 0
 |l::c=>mh (mr n c) l
def Pg (n:Nat)(c:List Nat):(mr n c).length=n:=by
 induction c with
 |nil=>simp[mr]
 |cons l c ih=>rw[mr,Ki,ih]
def ag3 (x:List Nat)(l:Nat)(hl:l<x.length)(h:0<x.getD l 0):mh (dec x l) l=x:=by
 refine zQ (by rw[Ki,lN]) λk hk=>?_;rw[TI _ _ _ (by rw[lN];exact hl),rq _ _ _ hl];by_cases e:l=k
 . subst e;rw[if_pos rfl,if_pos rfl];omega
 . rw[if_neg e,if_neg e]
def aqL (x:List Nat)(l:Nat)(hl:l<x.length):dec (mh x l) l=x:=by
 refine zQ (by rw[lN,Ki]) λk hk=>?_;rw[rq _ _ _ (by rw[Ki];exact hl),TI _ _ _ hl];by_cases e:l=k
 . subst e;rw[if_pos rfl,if_pos rfl];omega
 . rw[if_neg e,if_neg e]
def PK {x:List Nat}{n:Nat}(hx:x.length=n)(h:x.sum=0):x=List.replicate n 0:=
 zQ (by simp[hx]) λk hk=>by
  have:=xW x k;have e:(List.replicate n 0).getD k 0=0:=by simp[List.getD_eq_getElem?_getD,hx▸hk]
  rw[e];omega
def ax3 (n:Nat)(c:List Nat)(hc:∀l∈c,l<n)(x:List Nat)(hx:x.length=n)(hs:x.sum=c.length):polG (c.map unE) x=if x=mr n c then nD (eY x)else 0:=by
 induction c generalizing x with
 | nil=>
   have e:=PK hx hs;show(1:Dyadic)=if x=List.replicate n 0 then nD (eY x)else 0
   rw[if_pos e,e,arV];rfl
 | cons l c ih=>
   have hl:l<x.length:=by rw[hx];exact hc l zm
   show ki (unE l) (polG (c.map unE)) x=_
   rw[acn l _ x hl];by_cases h0:x.getD l 0=0
   . rw[h0,wU,if_neg]
     . grind
     . intro e;rw[e,mr,TI _ _ _ (by rw[Pg,<-hx];exact hl),if_pos rfl]at h0;omega
   . have hp:0<x.getD l 0:=by omega
     have h1:=XR x l hl hp;rw[ih (λk hk=>hc k (by simp[hk])) (dec x l) (by rw[lN];exact hx) (by simp only[List.length_cons]at hs;omega),arU x l hl hp,Fb];by_cases e:dec x l=mr n c
     . rw[if_pos e,if_pos (by rw[mr,<-e,ag3 x l hl hp])]
     . rw[if_neg e,if_neg (λh=>e (by rw[h,mr,aqL _ _ (by rw[Pg,<-hx];exact hl)]))];grind
def Bar (n:Nat)(u:Nat->Dyadic):Prop:=(∀l,l<n->0<=u l)/\sumTo u n=1
def ajK {n l:Nat}(h:l<n):Bar n (unE l):=by
 refine⟨λk _=>?_,?_⟩
 . unfold unE;split<;>decide
 . rw[Da _ l _ h (λk _ hk=>by unfold unE;rw[if_neg hk])];unfold unE;rw[if_pos rfl]
def sumTo_le {f g:Nat->Dyadic}(n:Nat)(h:∀k,k<n->f k<=g k):sumTo f n<=sumTo g n:=by
 induction n with
 |zero=>exact Dyadic.le_refl _
 |succ n ih=>rw[sumTo,sumTo];have h1:=ih λk hk=>h k zo;have h2:=h n zo;grind
def aoT {n:Nat}{u f:Nat->Dyadic}{lo hi:Dyadic}(hu:Bar n u)(h:∀l,l<n->lo<=f l/\f l<=hi):lo<=sumTo (λl=>u l*f l) n/\sumTo (λl=>u l*f l) n<=hi:=by
 have h1:=sumTo_le (f:=λl=>u l*lo) (g:=λl=>u l*f l) n λl hl=>by have:=gP (hu.1 l hl) (show 0<=f l-lo by have:=(h l hl).1;grind);grind
 have h2:=sumTo_le (f:=λl=>u l*f l) (g:=λl=>u l*hi) n λl hl=>by have:=gP (hu.1 l hl) (show 0<=hi-f l by have:=(h l hl).2;grind);grind
 rw[sumTo_congr (f:=λl=>u l*lo) (g:=λl=>lo*u l) n (λl _=>by grind),iB,hu.2]at h1;rw[sumTo_congr (f:=λl=>u l*hi) (g:=λl=>hi*u l) n (λl _=>by grind),iB,hu.2]at h2;constructor<;>grind
def Mk (n d:Nat)(Q:List (Nat->Dyadic)->Dyadic):Prop:=∀A u B,A.length+B.length+1=d->Q (A++u::B)=sumTo (λl=>u l*Q (A++unE l::B)) n
def ax4 {n d:Nat}{Q:List (Nat->Dyadic)->Dyadic}{lo hi:Dyadic}(hQ:Mk n d Q)(hu:∀c:List Nat,c.length=d->(∀l∈c,l<n)->lo<=Q (c.map unE)/\Q (c.map unE)<=hi)(m:Nat):
 ∀(A:List (Nat->Dyadic)) (c:List Nat),A.length=m->A.length+c.length=d->(∀u∈A,Bar n u)->(∀l∈c,l<n)->lo<=Q (A++c.map unE)/\Q (A++c.map unE)<=hi:=by
 induction m with
 |zero=>intro A c hA hd _ hc;have:A=[]:=List.length_eq_zero_iff.1 hA;subst this;exact hu c (by simpa using hd) hc
 | succ m ih=>
   intro A c hA hd hb hc;have hne:A≠[]:=λh=>by rw[h]at hA;cases hA
   obtain⟨B,u,rfl⟩:∃B u,A=B++[u]:=⟨A.dropLast,A.getLast hne,(List.dropLast_concat_getLast hne).symm⟩;have hBm:B.length=m:=by simpa using hA
   have hlc:B.length+(c.map unE).length+1=d:=by simp at hd⊢;omega
   rw[List.append_assoc,List.singleton_append,hQ B u _ hlc];refine aoT (hb u zm) λl hl=>?_
   exact ih B (l::c) hBm (by simp at hd⊢;omega) (λv hv=>hb v (by simp[hv])) (λk hk=>by
    rcases List.mem_cons.1 hk with rfl|h
    . exact hl
    . exact hc k h)
def ax5 {n d:Nat}{Q:List (Nat->Dyadic)->Dyadic}{lo hi:Dyadic}(hQ:Mk n d Q)(hu:∀c:List Nat,c.length=d->(∀l∈c,l<n)->lo<=Q (c.map unE)/\Q (c.map unE)<=hi)(A:List (Nat->Dyadic))(hA:A.length=d)(hb:∀u∈A,Bar n u):lo<=Q A/\Q A<=hi:=by have:=ax4 hQ hu A.length A [] rfl (by simpa using hA) hb (λl h=>by cases h);simpa using this
def zG (x:Dyadic):Dyadic:=if x<0 then-x else x
def l1 (n:Nat)(u v:Nat->Dyadic):Dyadic:=sumTo (λl=>zG (u l-v l)) n
def yA (n:Nat):List (Nat->Dyadic)->List (Nat->Dyadic)->Dyadic
 |u::U,v::V=>l1 n u v+yA n U V
 |_,_=>0
def aq5 {n:Nat}{u v f:Nat->Dyadic}{lo hi:Dyadic}(hu:Bar n u)(hv:Bar n v)(vq:lo<=hi)(h:∀l,l<n->lo<=f l/\f l<=hi):
 (sumTo (λl=>u l*f l) n-sumTo (λl=>v l*f l) n)+(sumTo (λl=>u l*f l) n-sumTo (λl=>v l*f l) n)<=(hi-lo) *l1 n u v:=by
 have h1:=sumTo_le (f:=λl=>(u l-v l) *f l+(u l-v l) *f l) (g:=λl=>(hi-lo) *zG (u l-v l)+(hi+lo) * (u l-v l)) n λl hl=>by
  obtain⟨g1,g2⟩:=h l hl;unfold zG;split
  . have:=gP (x:=-(u l-v l)) (y:=f l-lo) (by grind) (by grind);grind
  . have:=gP (x:=u l-v l) (y:=hi-f l) (by grind) (by grind);grind
 rw[yN,yN,iB,iB,XP,hu.2,hv.2,sumTo_congr (f:=λl=>(u l-v l) *f l) (g:=λl=>u l*f l-v l*f l) n (λl _=>by grind),XP]at h1;unfold l1;grind
def ax7 {n d:Nat}{Q:List (Nat->Dyadic)->Dyadic}{lo hi:Dyadic}(hQ:Mk n d Q)(vq:lo<=hi)(hu:∀c:List Nat,c.length=d->(∀l∈c,l<n)->lo<=Q (c.map unE)/\Q (c.map unE)<=hi)(U:List (Nat->Dyadic)):
 ∀(A V:List (Nat->Dyadic)),A.length+U.length=d->V.length=U.length->(∀u∈A,Bar n u)->(∀u∈U,Bar n u)->(∀u∈V,Bar n u)->(Q (A++U)-Q (A++V))+(Q (A++U)-Q (A++V))<=(hi-lo) *yA n U V:=by
 induction U with
 | nil=>
   intro A V _ hV _ _ _;have:V=[]:=List.length_eq_zero_iff.1 hV;subst this;show _<=(hi-lo) *0
   grind
 | cons u U ih=>
   intro A V hd hV hA hU hb;match V,hV with
   | v::V,hV=>
     have h1:=ih (A++[v]) V (by simp at hd⊢;omega) (by simpa using hV) (λx hx=>by
      rcases List.mem_append.1 hx with h|h
      . exact hA x h
      . rw[List.mem_singleton.1 h];exact hb v zm) (λx hx=>hU x (by simp[hx])) (λx hx=>hb x (by simp[hx]))
     have hl:A.length+U.length+1=d:=by simp at hd;omega
     have e1:=hQ A u U hl;have e2:=hQ A v U hl;have h2:=aq5 (hU u zm) (hb v zm) vq (f:=λl=>Q (A++unE l::U)) λl hl=>ax5 hQ hu _ (by simp at hd⊢;omega) λx hx=>by
      rcases List.mem_append.1 hx with h|h
      . exact hA x h
      . rcases List.mem_cons.1 h with rfl|h
        . exact ajK hl
        . exact hU x (by simp[h])
     rw[<-e1,<-e2]at h2;rw[List.append_assoc,List.append_assoc,List.singleton_append,List.singleton_append]at h1;rw[yA];grind
def xj (x:List Nat)(c:Dyadic)(l:Nat->Dyadic):iw:=(List.range x.length).map λk=>(mh x k,c*l k)
def KT (R:List (List Nat))(cs:List Dyadic)(l:Nat->Dyadic):iw:=(List.range R.length).flatMap λk=>xj (R.getD k []) (cs.getD k 0) l
def aAv {R R':List (List Nat)}{cs:List Dyadic}{l:Nat->Dyadic}{n:Nat}(hn:∀x∈R,x.length=n)(h1:∀x∈R,∀k,k<n->mh x k∈R'):∀p∈KT R cs l,p.1∈R':=by
 intro p hp;unfold KT at hp;rw[List.mem_flatMap]at hp;obtain⟨k,hk,hp⟩:=hp;rw[List.mem_range]at hk;unfold xj at hp;rw[List.mem_map]at hp;obtain⟨t,ht,rfl⟩:=hp;rw[List.mem_range]at ht;have hm:R.getD k []∈R:=by simp[hk]
 exact h1 _ hm t (by rw[hn _ hm]at ht;exact ht)
def atm {R:List (List Nat)}{cs:List Dyadic}{i j:Nat}(h2:∀x∈R,∀t,t<=x.getD i 0->mv x i j t∈R):∀p∈uY i j R cs,p.1∈R:=by intro p hp;unfold uY at hp;rw[List.mem_flatMap]at hp;obtain⟨k,hk,hp⟩:=hp;rw[List.mem_range]at hk;unfold rC at hp;rw[List.mem_map]at hp;obtain⟨t,ht,rfl⟩:=hp;rw[List.mem_range]at ht;exact h2 _ (by simp[hk]) t zo
def wz {x y:Dyadic}(hx:0<x)(hy:0<y):0<x*y:=by rw[<-Dyadic.toRat_lt_toRat_iff,Dyadic.toRat_zero]at hx hy⊢;rw[Dyadic.toRat_mul];exact Rat.mul_pos hx hy
def acs {a x y:Dyadic}(ha:0<a)(h:a*x<a*y):x<y:=by
 by_cases hxy:x<y
 . exact hxy
 . have:=gP (x:=a) (y:=x-y) (by grind) (by grind);grind
def Ff {n:Nat}(h:0<n):0<nD n:=by have h1:=(Kw (-(n:Int)) 0).2 zo;have h2:Dyadic.ofIntWithPrec (-(n:Int)) 0= -nD n:=(wX (n:Int) 0).symm;rw[h2]at h1;grind
def MZ (n:Nat):0<cQ n:=by
 induction n with
 |zero=>decide
 |succ n ih=>rw[cQ];exact Nat.mul_pos zo ih
def ax6 {n D i j:Nat}{R:List (List Nat)}(hn:R.Nodup)(hr:∀x∈R,x.length=n/\x.sum=D)(hm:∀x∈R,∀t,t<=x.getD i 0->mv x i j t∈R)(hij:i≠j)(hi:i<n)(hj:j<n)(cs:List Dyadic)(U:List (Nat->Dyadic))(hU:U.length=D):
 zipE (polG U) R (kN R (uY i j R cs))=zipE (polG (U.map (iV i j))) R cs:=by
 unfold kN;rw[aBR _ R hn _ (atm hm),axF];exact aka R cs λx hx=>atr i j n hij hi hj U x (hr x hx).1 ((hr x hx).2.trans hU.symm)
def aBX {n D:Nat}{R:List (List Nat)}(hr:∀x∈R,x.length=n/\x.sum=D)(cs:List Dyadic):Mk n D λU=>zipE (polG U) R cs:=λA u B _=>by
 show zipE (polG (A++u::B)) R cs=_
 rw[aka (h:=λx=>sumTo (λl=>u l*polG (A++unE l::B) x) n) R cs λx hx=>ax2 A u B n x (hr x hx).1];unfold zipE
 rw[sumTo_congr (g:=λk=>sumTo (λl=>u l* (cs.getD k 0*polG (A++unE l::B) (R.getD k []))) n) R.length λk _=>by
  rw[<-iB]
  exact sumTo_congr _ λl _=>by grind,XQ]
 exact sumTo_congr _ λl _=>by rw[iB]
def YG {n D:Nat}{R:List (List Nat)}(hn:R.Nodup)(hr:∀x∈R,x.length=n/\x.sum=D)(cs:List Dyadic)(c:List Nat)(hc:∀l∈c,l<n)(hd:c.length=D)(q:Nat)(hq:q<R.length)(h:R.getD q []=mr n c):zipE (polG (c.map unE)) R cs=nD (eY (R.getD q [])) *cs.getD q 0:=by
 have hg:∀k,k<R.length->polG (c.map unE) (R.getD k [])=if R.getD k []=mr n c then nD (eY (R.getD k []))else 0:=λk hk=>by
  have hm:R.getD k []∈R:=by simp[hk]
  exact ax3 n c hc _ (hr _ hm).1 ((hr _ hm).2.trans hd.symm)
 unfold zipE
 rw[Da _ q _ hq λk hk hne=>by
  rw[hg k hk,if_neg λe=>hne ?_]
  . grind
  . have e2:=e.trans h.symm;rw[List.getD_eq_getElem?_getD,List.getD_eq_getElem?_getD,List.getElem?_eq_getElem hk,List.getElem?_eq_getElem hq]at e2
    exact Ks hn e2]
 rw[hg q hq,if_pos h];grind
def aia (n:Nat)(s:Nat):∀x:List Nat,x.length=n->x.sum=s->∃c:List Nat,(∀l∈c,l<n)/\c.length=s/\mr n c=x:=by
 induction s with
 |zero=>intro x hx hs;exact⟨[],λl h=>(by cases h),rfl,(PK hx hs).symm⟩
 | succ s ih=>
   intro x hx hs;obtain⟨l,hl,h0⟩:∃l,l<x.length/\0<x.getD l 0:=by
    apply Classical.byContradiction;intro h;have h1:x=List.replicate n 0:=zQ (by simp[hx]) λk hk=>by
     have e:(List.replicate n 0).getD k 0=0:=by simp[List.getD_eq_getElem?_getD,hx▸hk]
     rw[e];apply Classical.byContradiction;intro h2;exact h ⟨k,hk,by omega⟩
    rw[h1]at hs;simp at hs
   obtain⟨c,h1,h2,h3⟩:=ih (dec x l) (by rw[lN];exact hx) (by have:=XR x l hl h0;omega);refine⟨l::c,λk hk=>?_,by rw[List.length_cons,h2],by rw[mr,h3,ag3 x l hl h0]⟩;rcases List.mem_cons.1 hk with rfl|hk
   . omega
   . exact h1 k hk
def mdU (u v:Nat->Dyadic)(l:Nat):Dyadic:=(u l+v l) *hp 1
def aux (i j:Nat)(u v:Nat->Dyadic):iV i j (mdU u v)=mdU (iV i j u) (iV i j v):=by
 funext l
 unfold iV mdU;split
 . grind
 . rename_i h1
   split
   . grind
   . rename_i h2
     simp only[h1,h2,if_false]
def auy (i j c:Nat)(hij:i≠j):iV i j (unE c)=if c=j then mdU (unE i) (unE j)else unE c:=by
 have h2:=Vy;funext l
 by_cases hc:c=j
 . subst hc;rw[if_pos rfl];unfold iV mdU unE;by_cases h1:l=c
   . subst h1;have:¬l=i:=λh=>hij h.symm;simp only[if_true,this,if_false];grind
   . by_cases h3:l=i
     . subst h3;simp only[h1,if_false,if_true];grind
     . simp only[h1,h3,if_false];grind
 . rw[if_neg hc];unfold iV unE;by_cases h1:l=j
   . subst h1;simp only[if_true,λh:l=c=>hc h.symm,if_false];rw[if_neg λh=>hc h.symm];grind
   . by_cases h3:l=i
     . subst h3;simp only[h1,if_false,if_true];rw[if_neg λh:j=c=>hc h.symm];grind
     . simp only[h1,h3,if_false]
def aoS {n:Nat}{u v:Nat->Dyadic}(hu:Bar n u)(hv:Bar n v):Bar n (mdU u v):=by
 have h2:=Vy;refine⟨λl hl=>?_,?_⟩
 . have h3:(0:Dyadic)<=hp 1:=by decide+kernel
   exact gP (by have:=hu.1 l hl;have:=hv.1 l hl;grind) h3
 . unfold mdU;rw[sumTo_congr (g:=λl=>hp 1* (u l+v l)) n λl _=>by grind,iB,yN,hu.2,hv.2];grind
structure HalfSt (n D V:Nat)(R:List (List Nat))(p0:Nat->Nat->Dyadic)(cs0:List Dyadic)(M:(Nat->Dyadic)->Nat->Dyadic)(p:Nat->Nat->Dyadic)(cs:List Dyadic):Prop where
 pol:∀U:List (Nat->Dyadic),U.length=D->zipE (polG U) R cs=zipE (polG (U.map M)) R cs0
 mid:∀u v,M (mdU u v)=mdU (M u) (M v)
 bar:∀c,c<n->Bar n (M (unE c))
 pt:∀c b,c<n->b<V->p c b=sumTo (λl=>M (unE c) l*p0 l b) n
def HalfSt.start (n D V:Nat)(R:List (List Nat))(p0:Nat->Nat->Dyadic)(cs0:List Dyadic):HalfSt n D V R p0 cs0 id p0 cs0:=
 ⟨λU _=>by rw[List.map_id],λ_ _=>rfl,λc hc=>ajK hc,λc b hc _=>by
  rw[Da _ c _ hc λk _ hk=>by show unE c k*_=0;unfold unE;rw[if_neg hk];grind];show _=unE c c*_
  unfold unE;rw[if_pos rfl];grind⟩
def HalfSt.step {n D V:Nat}{R:List (List Nat)}{p0 p p':Nat->Nat->Dyadic}{cs0 cs:List Dyadic}{M:(Nat->Dyadic)->Nat->Dyadic}(h:HalfSt n D V R p0 cs0 M p cs)(hn:R.Nodup)(hr:∀x∈R,x.length=n/\x.sum=D)(i j:Nat)(hm:∀x∈R,∀t,t<=x.getD i 0->mv x i j t∈R)(hij:i≠j)(hi:i<n)(hj:j<n)
 (hp':∀c b,c<n->b<V->p' c b=if c=j then(p i b+p j b) *hp 1 else p c b):HalfSt n D V R p0 cs0 (λu=>M (iV i j u)) p' (kN R (uY i j R cs)):=by
 have hu:∀c,M (iV i j (unE c))=if c=j then mdU (M (unE i)) (M (unE j))else M (unE c):=λc=>by
  rw[auy i j c hij];split
  . rw[h.mid]
  . rfl
 refine⟨λU hU=>?_,λu v=>by rw[aux,h.mid],λc hc=>?_,λc b hc hb=>?_⟩
 . rw[ax6 hn hr hm hij hi hj cs U hU,h.pol _ (by rw[List.length_map];exact hU),List.map_map];rfl
 . rw[hu];split
   . exact aoS (h.bar i hi) (h.bar j hj)
   . exact h.bar c hc
 . rw[hp' c b hc hb,hu];split
   . rw[h.pt i b hi hb,h.pt j b hj hb,<-yN];rw[sumTo_congr (f:=λl=>mdU (M (unE i)) (M (unE j)) l*p0 l b) (g:=λl=>hp 1* (M (unE i) l*p0 l b+M (unE j) l*p0 l b)) n λl _=>by unfold mdU;grind,iB];grind
   . exact h.pt c b hc hb
def avb {n:Nat}{X Y:Dyadic}(f:Nat->Nat->Dyadic):∀(c e:List Nat),c.length=e.length->(∀l∈c,l<n)->(∀l∈e,l<n)->(∀a b,a<n->b<n->X*l1 n (f a) (f b)<Y)->X*yA n (c.map f) (e.map f)<=nD c.length*Y/\(0<c.length->X*yA n (c.map f) (e.map f)<nD c.length*Y):=by
 intro c;induction c with
 | nil=>
   intro e he _ _ _;have:e=[]:=List.length_eq_zero_iff.1 he.symm;subst this;refine⟨?_,λh=>absurd h (Nat.lt_irrefl 0)⟩;show X*0<=nD 0*Y
   rw[wU];grind
 | cons a c ih=>
   intro e he hc hb h;match e,he with
   | b::e,he=>
     have h1:=(ih e (by simpa using he) (λl hl=>hc l (by simp[hl])) (λl hl=>hb l (by simp[hl])) h).1;have h2:=h a b (hc a zm) (hb b zm);have e1:nD (a::c).length=nD c.length+1:=by rw[List.length_cons,WM,ahU]
     show X* (l1 n (f a) (f b)+yA n (c.map f) (e.map f))<=_/\(_->X* (l1 n (f a) (f b)+yA n (c.map f) (e.map f))<_)
     rw[e1];exact⟨by grind,λ_=>by grind⟩
def atp {n D V:Nat}{R:List (List Nat)}{p0 p:Nat->Nat->Dyadic}{cs0 cs:List Dyadic}{M:(Nat->Dyadic)->Nat->Dyadic}(h:HalfSt n D V R p0 cs0 M p cs)(hn:R.Nodup)(hr:∀x∈R,x.length=n/\x.sum=D)(hall:∀x:List Nat,x.length=n->x.sum=D->x∈R)(hD:0<D){lo hi m:Dyadic}(vq:lo<=hi)
 (h0:∀q,q<R.length->lo*nD (cQ D)<=nD (eY (R.getD q [])) *cs0.getD q 0/\nD (eY (R.getD q [])) *cs0.getD q 0<=hi*nD (cQ D))
 (hL:∀a b,a<n->b<n->nD D* (hi-lo) *l1 n (M (unE a)) (M (unE b))<m+m) (q r:Nat) (hq:q<R.length) (hr2:r<R.length):
 nD (eY (R.getD q [])) *cs.getD q 0-nD (eY (R.getD r [])) *cs.getD r 0<m*nD (cQ D):=by
 have hF:0<nD (cQ D):=Ff (MZ D);have hmq:R.getD q []∈R:=by simp[hq]
 have hmr:R.getD r []∈R:=by simp[hr2]
 obtain⟨c,c1,c2,c3⟩:=aia n D _ (hr _ hmq).1 (hr _ hmq).2;obtain⟨e,e1,e2,e3⟩:=aia n D _ (hr _ hmr).1 (hr _ hmr).2;rw[<-YG hn hr cs c c1 c2 q hq c3.symm,<-YG hn hr cs e e1 e2 r hr2 e3.symm,h.pol _ (by rw[List.length_map];exact c2),h.pol _ (by rw[List.length_map];exact e2),List.map_map,List.map_map];have hb:∀(s:List Nat),(∀l∈s,l<n)->∀u∈s.map (M∘unE),Bar n u:=λs hs u hu=>by obtain⟨l,hl,rfl⟩:=List.mem_map.1 hu;exact h.bar l (hs l hl)
 have h1:=ax7 (aBX hr cs0) (lo:=lo*nD (cQ D)) (hi:=hi*nD (cQ D)) (by have:=gP (x:=hi-lo) (y:=nD (cQ D)) (by grind) (by grind);grind) (λs hs hs2=>by
  have JH:=hall (mr n s) (Pg n s) (by
   have:∀s:List Nat,(∀l∈s,l<n)->(mr n s).sum=s.length:=λs=>by
    induction s with
    |nil=>intro _;simp[mr]
    |cons l s ih=>intro hh;rw[mr,ag4 _ _ (by rw[Pg];exact hh l zm),ih λk hk=>hh k (by simp[hk])];rfl
   rw[this s hs2,hs])
  obtain⟨k,hk,hk2⟩:=List.mem_iff_getElem.1 JH;have e9:R.getD k []=mr n s:=by rw[<-hk2];simp[hk]
  show _<=zipE (polG (s.map unE)) R cs0/\zipE (polG (s.map unE)) R cs0<=_
  rw[YG hn hr cs0 s hs2 hs k hk e9]
  exact h0 k hk) (c.map (M∘unE)) [] (e.map (M∘unE)) (by simp[c2]) (by simp[c2,e2]) (λu hu=>by cases hu) (hb c c1) (hb e e1)
 have h2:=(avb (n:=n) (X:=nD D* (hi-lo)) (Y:=m+m) (M∘unE) c e (c2.trans e2.symm) c1 e1 hL).2 zo;rw[c2]at h2;have h3:=acs (a:=nD D) (x:=(hi-lo) *yA n (c.map (M∘unE)) (e.map (M∘unE))) (y:=m+m) (Ff hD) (by grind);have h4:=wz (x:=nD (cQ D)) (y:=m+m-(hi-lo) *yA n (c.map (M∘unE)) (e.map (M∘unE))) hF (by grind);simp only[List.nil_append]at h1;grind
abbrev Pr:=Dyadic ×Dyadic
def cn (s:Raw×Raw):Pr:=(au s.1,au s.2)
def fg (p:Pr):Raw×Raw:=(canon p.1,canon p.2)
def ai1 (p:Pr):cn (fg p)=p:=by unfold cn fg;rw[bF,bF]
def iZ (p:Pr):Pr:=if 0<bg (p.1-p.2)then(p.2,p.1)else p
def xn (p:Pr):Dyadic:=(iZ p).2-(iZ p).1
def sM (p:Pr):Dyadic:=(p.1+p.2) *hp 1
def awb (p:Pr):sM (iZ p)=sM p:=by
 unfold iZ sM;split
 . show(p.2+p.1) *hp 1=_;rw[show p.2+p.1=p.1+p.2 by grind]
 . rfl
def mM (bx:List Pr):Int:=if bx=[]then 1 else if bx.any (λp=>decide (0<=bg (p.1-p.2)))then 5 else 0
def jh (f:Nat->Dyadic):Nat->Nat
 |0=>0
 |k+1=>if 0<bg (f k-f (jh f k))then k else jh f k
def BQ (X:Dyadic):0<bg X↔0<X:=by
 have h1:=uQ X;have h2:=MQ X;constructor
 . intro h;have a1:¬X<0:=λhx=>by have:=h1.2 hx;omega
   have a2:X≠0:=λhx=>by have:=h2.2 hx;omega
   grind
 . intro h;have a1:¬bg X<0:=λhx=>by have:=h1.1 hx;grind
   have a2:bg X≠0:=λhx=>by have:=h2.1 hx;grind
   omega
def aji (a b:Dyadic):0<a-b↔b<a:=by grind
def abv (f:Nat->Dyadic)(L:Nat)(hL:1<=L):jh f L<L/\(∀k,k<L->¬f (jh f L)<f k)/\∀k,k<jh f L->f k<f (jh f L):=by
 induction L with
 |zero=>omega
 | succ L ih=>
   by_cases h0:L=0
   . subst h0;have e:jh f 1=0:=by unfold jh jh;simp
     rw[e]
     exact ⟨by omega, fun k hk => by have:k=0:=by omega
                                     subst this;grind,λk hk=>absurd hk zo⟩
   . obtain⟨i1,i2,i3⟩:=ih zo;show(if 0<bg (f L-f (jh f L))then L else jh f L)<L+1/\_
     have e:jh f (L+1)=if 0<bg (f L-f (jh f L))then L else jh f L:=rfl
     rw[e];by_cases h:0<bg (f L-f (jh f L))
     . rw[if_pos h];have h2:f (jh f L)<f L:=(aji _ _).1 ((BQ _).1 h);refine⟨by omega,λk hk=>?_,λk hk=>?_⟩
       . by_cases Ck:k=L
         . subst Ck;grind
         . have:=i2 k zo;grind
       . have:=i2 k zo;grind
     . rw[if_neg h];have h2:¬f (jh f L)<f L:=λh3=>h ((BQ _).2 ((aji _ _).2 h3));refine⟨by omega,λk hk=>?_,i3⟩;by_cases Ck:k=L
       . subst Ck;exact h2
       . exact i2 k zo
def tK (bx:List Pr)(a:Nat)(up:Bool):List Pr:=(bx.map iZ).set a (if up then(sM (bx.getD a (0,0)),(iZ (bx.getD a (0,0))).2)else((iZ (bx.getD a (0,0))).1,sM (bx.getD a (0,0))))
def ati (bx:List Pr)(a:Nat)(up:Bool):(tK bx a up).length=bx.length:=by simp[tK]
def xo (bx:List Pr):Nat:=jh (λi=>xn (bx.getD i (0,0))) bx.length
def AY (bx:List Pr):Nat->List Pr
 |0=>bx
 |k+1=>tK (AY bx k) (xo (AY bx k)) false
def zH (bx:List Pr)(k:Nat):Nat:=xo (AY bx k)
def azW (bx:List Pr)(k:Nat):(AY bx k).length=bx.length:=by
 induction k with
 |zero=>rfl
 |succ k ih=>show(tK _ _ _).length=_;rw[ati,ih]
def pW (bx:List Pr):Nat->Nat->Nat
 |0,_=>0
 |k+1,i=>pW bx k i+(if i=zH bx k then 1 else 0)
def ajt (bx:List Pr)(k i:Nat):pW bx k i<=k:=by
 induction k with
 |zero=>exact Nat.le_refl _
 |succ k ih=>unfold pW;split<;>omega
def uF (B:Nat)(bx:List Pr):Prop:=∀p∈bx,Sm B p.1/\Sm B p.2
def AU {B:Nat}{p:Pr}(h:Sm B p.1/\Sm B p.2):Sm B (iZ p).1/\Sm B (iZ p).2:=by
 unfold iZ;split
 . exact⟨h.2,h.1⟩
 . exact h
def ahE {B:Nat}{p:Pr}(h:Sm B p.1/\Sm B p.2):Sm (B+3) (sM p):=(Sm.mul (Sm.add h.1 h.2) (EI 1)).mono zo
def aBm {B:Nat}{p:Pr}(h:Sm B p.1/\Sm B p.2):Sm (B+1) (xn p):=Sm.sub (AU h).2 (AU h).1
def uF.mono {B B':Nat}{bx:List Pr}(h:uF B bx)(hb:B<=B'):uF B' bx:=λp hp=>⟨(h p hp).1.mono hb,(h p hp).2.mono hb⟩
def uF.get {B:Nat}{bx:List Pr}(h:uF B bx)(a:Nat):Sm B (bx.getD a (0,0)).1/\Sm B (bx.getD a (0,0)).2:=by
 by_cases ha:a<bx.length
 . have e:bx.getD a (0,0)=bx[a]:=by simp[ha]
   rw[e];exact h _ (List.getElem_mem ha)
 . have e:bx.getD a (0,0)=(0,0):=by simp[List.getD_eq_getElem?_getD,List.getElem?_eq_none (by omega:bx.length<=a)]
   rw[e];exact⟨Sm.zero _,Sm.zero _⟩
def atk {B:Nat}{bx:List Pr}(h:uF B bx)(a:Nat)(up:Bool):uF (B+3) (tK bx a up):=by
 intro p hp;rcases List.mem_or_eq_of_mem_set hp with h1|h1
 . obtain⟨q,hq,rfl⟩:=List.mem_map.1 h1;exact⟨(AU (h q hq)).1.mono zo,(AU (h q hq)).2.mono zo⟩
 . have h2:=h.get a;subst h1;cases up
   . exact⟨(AU h2).1.mono zo,ahE h2⟩
   . exact⟨ahE h2,(AU h2).2.mono zo⟩
def azX {B:Nat}{bx:List Pr}(h:uF B bx)(k:Nat):uF (B+3*k) (AY bx k):=by
 induction k with
 |zero=>exact h
 |succ k ih=>exact(atk ih _ _).mono zo
def AE (c:Nat->Bool)(d:Nat):Nat->Nat->Option Nat
 |0,_=>none
 |f+1,q=>if 1024<d*q then none else if c q then some (d*q)else AE c d f (q+1)
def CH (c:Nat->Bool)(d:Nat):Option Nat:=AE c d 1026 0
def vI (g:Dyadic)(ds:Nat->Dyadic)(t:Nat->Nat):Nat->Dyadic
 |0=>0
 |i+1=>vI g ds t i+g*ds i*hp (t i)
end Go.Proofs.YtbkopgdpcijfbaaGreatDoor
namespace Go.Proofs.YtbkopgdpcijfbaaGreatDoor
open Go.RowKit
attribute [local go_sem ↓] Go.wp_at_zero Go.wp_at_succ
def idxFrom (p:Value->Bool):List Value->Nat->Int
 |[],_=>-1
 |v::l,k=>if p v then(k:Int)else idxFrom p l (k+1)
def Wo (p:Value->Bool)(l:List Value)(k n:Nat)(h:n<l.length):idxFrom p (l.drop n) k=if p l[n]then(k:Int)else idxFrom p (l.drop (n+1)) (k+1):=by rw[List.drop_eq_getElem_cons h];rfl
def agV (p:Value->Bool)(l:List Value)(k:Nat):decide (0<=idxFrom p l k)=l.any p:=by
 induction l generalizing k with
 |nil=>rfl
 | cons v l ih=>
   unfold idxFrom;rw[List.any_cons];by_cases h:p v=true
   . rw[if_pos h,h,Bool.true_or];simp
   . rw[if_neg h,ih];simp[h]
def auI (a:Option Addr)(n cap:Nat)(vals:List Value)(gf:Nat)(lb:Array Value)(p:Value->Bool)(w:World)(hn:vals.length=n)(hl:n<=1099511627776)(ha:At w a vals)
 (eg:∀args w,(callFunc gf args).run Tryz.prog w=.ok (.enter gf args) w)
 (hcl:∀v∈vals,∀W,Bw w W->Cl gf (#[v]++lb) W λe w'=>e=.returned (ag (p v))/\Bw W w'):
 Cv 231 #[.slice a n cap,.func (.func gf) #[] lb] w (af (idxFrom p vals 0)):=by
 obtain⟨Hn,Ha,fJ,mF⟩:=dv hn ha hcl eg;clear hn ha hcl eg;have Hb:=hbz w;go_enter Tryz.func231,Tryz.ntmps231;go_wp2_with fail;go_loopw[5,8] (λ_ i wr=>∃k:Nat,k<=n/\i=af (k:Int)/\idxFrom p vals 0=idxFrom p (vals.drop k) k/\Bw w wr) (λ_ i _=>n-(intOf i).toNat);case atStart=>exact⟨0,Nat.zero_le _,rfl,rfl,Hb.out⟩
 case round=>
  clear Hb;obtain⟨k,hk,rfl,iJ,pb⟩:=hrel;obtain⟨qw,Hb⟩:=aK iJ pb;clear iJ pb;by_cases hlt:k<n
  . have bA:k<vals.length:=by rw[Hn.out];exact hlt
    obtain⟨b,o,hab,hcs⟩:=(Ha.out.below Hb.out).get (by intro h;rw[h]at bA;simp at bA);obtain⟨v,hv⟩:=aB (vals[k]);have hc0:wr.cell? ⟨b,o+k,none⟩=some v:=by rw[hcs k bA,List.getElem?_eq_getElem bA,hv]
    have bD:=sJ n cap k (k:Int) hab hlt rfl;rw[Nat.mul_one]at bD;have hcall:=fJ.out v (by rw[<-hv];exact List.getElem_mem bA) wr Hb.out;have hstep:=Wo p vals k k bA;rw[hv,<-qw.out]at hstep;obtain⟨jf,lK⟩:=aK hstep hcall;have oP:=mF.out;clear hcs hab hv hstep hcall;go_wp2_with fail;refine lK.out.mono ?_;rintro e w1 ⟨rfl,hb1⟩;replace Hb:=aj (aI Hb.out hb1);clear hb1 hc0 bD oP;obtain⟨t,ht⟩:=aB (p v);rw[ht]at jf⊢;clear ht;cases t with
    |true=>go_wp2;refine bodyPost_ret (results_tmp rfl _ _ _) rfl ⟨?_,Hb.out⟩;have h:=jf.out;rw[if_pos (by trivial)]at h;rw[h];rfl
    | false=>
      go_wp2;go_roundw;case rel=>exact⟨k+1,by omega,by go_num,by have h:=jf.out;rw[if_neg zd]at h;exact h,Hb.out⟩
      case measure=>exact bC
  . obtain rfl:k=n:=by omega
    go_wp2;refine bodyPost_ret (results_tmp rfl _ _ _) rfl ⟨?_,Hb.out⟩;have h:=qw.out;rw[List.drop_of_length_le (by rw[Hn.out];exact Nat.le_refl _)]at h;rw[h];rfl
def aqw (a:Option Addr)(n cap:Nat)(vals:List Value)(gf:Nat)(lb:Array Value)(p:Value->Bool)(w:World)(hn:vals.length=n)(hl:n<=1099511627776)(ha:At w a vals)
 (eg:∀args w,(callFunc gf args).run Tryz.prog w=.ok (.enter gf args) w)
 (hcl:∀v∈vals,∀W,Bw w W->Cl gf (#[v]++lb) W λe w'=>e=.returned (ag (p v))/\Bw W w'):
 Cv 159 #[.slice a n cap,.func (.func gf) #[] lb] w (ag (vals.any p)):=by
 have h1:=auI a n cap vals gf lb p w hn hl ha eg hcl;rw[<-agV p vals 0];generalize idxFrom p vals 0=i at*;have H1:=aj h1;clear h1 hcl eg ha hn;have Hb:=hbz w;go_enter Tryz.func159,Tryz.ntmps159;go_wp2_with fail;refine aJ (Hb.an trivial) (H1.out) λw1 ae ak=>?_;have Hb:=ae.1;go_wp2;exact bodyPost_ret (v:=ag (decide (0<=i))) (by simp[results,Tryz.results159,go_sem,ak]) rfl ⟨rfl,df⟩
def auH (a:Option Addr)(n cap:Nat)(vals:List Value)(gf:Nat)(lb:Array Value)(p:Value->Bool)(w:World)(hn:vals.length=n)(hl:n<=1099511627776)(ha:At w a vals)
 (eg:∀args w,(callFunc gf args).run Tryz.prog w=.ok (.enter gf args) w)
 (hcl:∀v∈vals,∀W,Bw w W->Cl gf (#[v]++lb) W λe w'=>e=.returned (ag (p v))/\Bw W w'):
 Cv 300 #[.slice a n cap,.func (.func gf) #[] lb] w (af (idxFrom p vals 0)):=by
 obtain⟨Hn,Ha,fJ,mF⟩:=dv hn ha hcl eg;clear hn ha hcl eg;have Hb:=hbz w;go_enter Tryz.func300,Tryz.ntmps300;go_wp2_with fail;go_loopw[5,8] (λ_ i wr=>∃k:Nat,k<=n/\i=af (k:Int)/\idxFrom p vals 0=idxFrom p (vals.drop k) k/\Bw w wr) (λ_ i _=>n-(intOf i).toNat);case atStart=>exact⟨0,Nat.zero_le _,rfl,rfl,Hb.out⟩
 case round=>
  clear Hb;obtain⟨k,hk,rfl,iJ,pb⟩:=hrel;obtain⟨qw,Hb⟩:=aK iJ pb;clear iJ pb;by_cases hlt:k<n
  . have bA:k<vals.length:=by rw[Hn.out];exact hlt
    obtain⟨b,o,hab,hcs⟩:=(Ha.out.below Hb.out).get (by intro h;rw[h]at bA;simp at bA);obtain⟨v,hv⟩:=aB (vals[k]);have hc0:wr.cell? ⟨b,o+k,none⟩=some v:=by rw[hcs k bA,List.getElem?_eq_getElem bA,hv]
    have bD:=ER n cap k (k:Int) hab hlt rfl;rw[Nat.mul_one]at bD;have hcall:=fJ.out v (by rw[<-hv];exact List.getElem_mem bA) wr Hb.out;have hstep:=Wo p vals k k bA;rw[hv,<-qw.out]at hstep;obtain⟨jf,lK⟩:=aK hstep hcall;have oP:=mF.out;clear hcs hab hv hstep hcall;go_wp2_with fail;refine lK.out.mono ?_;rintro e w1 ⟨rfl,hb1⟩;replace Hb:=aj (aI Hb.out hb1);clear hb1 hc0 bD oP;obtain⟨t,ht⟩:=aB (p v);rw[ht]at jf⊢;clear ht;cases t with
    |true=>go_wp2;refine bodyPost_ret (results_tmp rfl _ _ _) rfl ⟨?_,Hb.out⟩;have h:=jf.out;rw[if_pos (by trivial)]at h;rw[h];rfl
    | false=>
      go_wp2;go_roundw;case rel=>exact⟨k+1,by omega,by go_num,by have h:=jf.out;rw[if_neg zd]at h;exact h,Hb.out⟩
      case measure=>exact bC
  . obtain rfl:k=n:=by omega
    go_wp2;refine bodyPost_ret (results_tmp rfl _ _ _) rfl ⟨?_,Hb.out⟩;have h:=qw.out;rw[List.drop_of_length_le (by rw[Hn.out];exact Nat.le_refl _)]at h;rw[h];rfl
def aqv (a:Option Addr)(n cap:Nat)(vals:List Value)(gf:Nat)(lb:Array Value)(p:Value->Bool)(w:World)(hn:vals.length=n)(hl:n<=1099511627776)(ha:At w a vals)
 (eg:∀args w,(callFunc gf args).run Tryz.prog w=.ok (.enter gf args) w)
 (hcl:∀v∈vals,∀W,Bw w W->Cl gf (#[v]++lb) W λe w'=>e=.returned (ag (p v))/\Bw W w'):
 Cv 268 #[.slice a n cap,.func (.func gf) #[] lb] w (ag (vals.any p)):=by
 have h1:=auH a n cap vals gf lb p w hn hl ha eg hcl;rw[<-agV p vals 0];generalize idxFrom p vals 0=i at*;have H1:=aj h1;clear h1 hcl eg ha hn;have Hb:=hbz w;go_enter Tryz.func268,Tryz.ntmps268;go_wp2_with fail;refine aJ (Hb.an trivial) (H1.out) λw1 ae ak=>?_;have Hb:=ae.1;go_wp2;exact bodyPost_ret (v:=ag (decide (0<=i))) (by simp[results,Tryz.results268,go_sem,ak]) rfl ⟨rfl,df⟩
def auG (a:Option Addr)(n cap:Nat)(vals:List Value)(gf:Nat)(lb:Array Value)(p:Value->Bool)(w:World)(hn:vals.length=n)(hl:n<=1099511627776)(ha:At w a vals)
 (eg:∀args w,(callFunc gf args).run Tryz.prog w=.ok (.enter gf args) w)
 (hcl:∀v∈vals,∀W,Bw w W->Cl gf (#[v]++lb) W λe w'=>e=.returned (ag (p v))/\Bw W w'):
 Cv 270 #[.slice a n cap,.func (.func gf) #[] lb] w (af (idxFrom p vals 0)):=by
 obtain⟨Hn,Ha,fJ,mF⟩:=dv hn ha hcl eg;clear hn ha hcl eg;have Hb:=hbz w;go_enter Tryz.func270,Tryz.ntmps270;go_wp2_with fail;go_loopw[5,8] (λ_ i wr=>∃k:Nat,k<=n/\i=af (k:Int)/\idxFrom p vals 0=idxFrom p (vals.drop k) k/\Bw w wr) (λ_ i _=>n-(intOf i).toNat);case atStart=>exact⟨0,Nat.zero_le _,rfl,rfl,Hb.out⟩
 case round=>
  clear Hb;obtain⟨k,hk,rfl,iJ,pb⟩:=hrel;obtain⟨qw,Hb⟩:=aK iJ pb;clear iJ pb;by_cases hlt:k<n
  . have bA:k<vals.length:=by rw[Hn.out];exact hlt
    obtain⟨b,o,hab,hcs⟩:=(Ha.out.below Hb.out).get (by intro h;rw[h]at bA;simp at bA);obtain⟨v,hv⟩:=aB (vals[k]);have hc0:wr.cell? ⟨b,o+k,none⟩=some v:=by rw[hcs k bA,List.getElem?_eq_getElem bA,hv]
    have bD:=ES n cap k (k:Int) hab hlt rfl;rw[Nat.mul_one]at bD;have hcall:=fJ.out v (by rw[<-hv];exact List.getElem_mem bA) wr Hb.out;have hstep:=Wo p vals k k bA;rw[hv,<-qw.out]at hstep;obtain⟨jf,lK⟩:=aK hstep hcall;have oP:=mF.out;clear hcs hab hv hstep hcall;go_wp2_with fail;refine lK.out.mono ?_;rintro e w1 ⟨rfl,hb1⟩;replace Hb:=aj (aI Hb.out hb1);clear hb1 hc0 bD oP;obtain⟨t,ht⟩:=aB (p v);rw[ht]at jf⊢;clear ht;cases t with
    |true=>go_wp2;refine bodyPost_ret (results_tmp rfl _ _ _) rfl ⟨?_,Hb.out⟩;have h:=jf.out;rw[if_pos (by trivial)]at h;rw[h];rfl
    | false=>
      go_wp2;go_roundw;case rel=>exact⟨k+1,by omega,by go_num,by have h:=jf.out;rw[if_neg zd]at h;exact h,Hb.out⟩
      case measure=>exact bC
  . obtain rfl:k=n:=by omega
    go_wp2;refine bodyPost_ret (results_tmp rfl _ _ _) rfl ⟨?_,Hb.out⟩;have h:=qw.out;rw[List.drop_of_length_le (by rw[Hn.out];exact Nat.le_refl _)]at h;rw[h];rfl
def Pt (w:World)(v:Value)(aS:List Raw):Prop:=∃a cap,v=.slice a aS.length cap/\At w a (aS.flatMap bu)
def Pt.below {w w':World}{v:Value}{aS:List Raw}(h:Pt w v aS)(hb:Bw w w'):Pt w' v aS:=
 let ⟨a,cap,hv,ha⟩:=h;⟨a,cap,hv,ha.below hb⟩
def bJ (w:World)(a:Option Addr)(rows:List (List Raw)):Prop:=∃vals:List Value,vals.length=rows.length/\At w a vals/\∀i (h:i<rows.length) (h':i<vals.length),Pt w vals[i] rows[i]
def bJ.below {w w':World}{a:Option Addr}{rows:List (List Raw)}(h:bJ w a rows)(hb:Bw w w'):bJ w' a rows:=
 let ⟨vals,hl,ha,hp⟩:=h;⟨vals,hl,ha.below hb,λi h1 h2=>(hp i h1 h2).below hb⟩
instance {w :World} {a:Option Addr} {rows:List (List Raw)}:QTr (bJ w a rows) w (λW=>bJ W a rows):=⟨λh _ k=>bJ.below h k⟩
def bJ.row {w:World}{a:Option Addr}{rows:List (List Raw)}(h:bJ w a rows)(k:Nat)(hk:k<rows.length):
 ∃b o a' cap',a=some ⟨b,o,none⟩/\w.cell? ⟨b,o+k,none⟩=some (.slice a' rows[k].length cap')/\At w a' (rows[k].flatMap bu):=by
 obtain⟨vals,hl,ha,hp⟩:=h;have hk2:k<vals.length:=by rw[hl];exact hk
 obtain⟨b,o,hab,hcs⟩:=ha.get (by intro h0;rw[h0]at hk2;simp at hk2);obtain⟨a',cap',hv,hat⟩:=hp k hk hk2;exact⟨b,o,a',cap',hab,by rw[hcs k hk2,List.getElem?_eq_getElem hk2,hv],hat⟩
def AB :Value->Int
 | .slice _ n _=>n
 |_=>0
def CU (N:Int)(v:Value):Bool:=decide (AB v≠N)
def abl {w:World}{vals:List Value}{rows:List (List Raw)}(N:Int)(hl:vals.length=rows.length)(hp:∀i (h:i<rows.length) (h':i<vals.length),Pt w vals[i] rows[i]):
 vals.any (CU N)=rows.any λr=>decide ((r.length:Int)≠N):=by
 induction vals generalizing rows with
 |nil=>have:rows=[]:=List.length_eq_zero_iff.1 hl.symm;subst this;rfl
 | cons v vs ih=>
   match rows,hl with
   |r::rs,hl=>have h0:=hp 0 zm zm;obtain⟨a,cap,hv,_⟩:=h0;have hv':v=.slice a r.length cap:=hv;have:=ih (rows:=rs) (by simpa using hl) (λi h h'=>hp (i+1) zi zi);rw[List.any_cons,List.any_cons,this];subst hv';rfl
def aA0 (bn:Nat)(N:Int)(a:Option Addr)(n cap:Nat)(w:World)(hN:w.cell? ⟨bn,0,none⟩=some (af N)):
 Cv 158 #[.slice a n cap,.pointer (some ⟨bn,0,none⟩)] w (ag (CU N (.slice a n cap))):=by
 have Hb:=hbz w;go_enter Tryz.func158,Tryz.ntmps158;go_wp2;refine bodyPost_ret (results_tmp rfl _ _ _) rfl ⟨?_,Hb.out⟩;simp only[CU,AB];by_cases h:(n:Int)=N<;>simp[h]
def lF (rows:List (List Raw)):Int:=
 let n:Int:=rows.length-1
 if n<1\/8<n\/(rows.any λr=>decide ((r.length:Int)≠n))then 0 else n
def Yu (a:Option Addr)(L cap:Nat)(rows:List (List Raw))(w:World)(hL:rows.length=L)(hl:L<=1099511627776)(ha:bJ w a rows):
 Cv 70 #[.slice a L cap] w (af (lF rows)):=by
 obtain⟨vals,hvl,hat,hp⟩:=ha;have Cc:=λN=>abl (w:=w) N hvl hp;have hcl:∀(bn:Nat) (W:World),W.cell? ⟨bn,0,none⟩=some (af ((L:Int)-1))->At W a vals->Cv 159 #[.slice a L cap,.func (.func 158) #[] #[.pointer (some ⟨bn,0,none⟩)]] W (ag (rows.any λr=>decide ((r.length:Int)≠(L:Int)-1))):=by intro bn W hc hA;rw[<-Cc];refine aqw a L cap vals 158 #[.pointer (some ⟨bn,0,none⟩)] (CU ((L:Int)-1)) W (by rw[hvl,hL]) hl hA (enters_of Tryz.func158 zk rfl) (λv hv W' hb=>?_);obtain⟨i,hi,rfl⟩:=List.mem_iff_getElem.1 hv;obtain⟨a',cap',e,_⟩:=hp i (by rw[<-hvl];exact hi) hi;rw[e];exact aA0 bn _ a' _ cap' W' (cell_later hb hc)
 have hv:lF rows=if(L:Int)-1<1\/8<(L:Int)-1\/(rows.any λr=>decide ((r.length:Int)≠(L:Int)-1))=true then 0 else(L:Int)-1:=by unfold lF;rw[hL]
 obtain⟨T,hT⟩:=aB (rows.any λr=>decide ((r.length:Int)≠(L:Int)-1));rw[hT]at hv;simp only[hT]at hcl;obtain⟨fJ,dL,Hv⟩:=cw hcl hat hv;obtain⟨V,hV⟩:=aB (lF rows);rw[hV]at Hv⊢;clear hcl hat hv Cc hvl hp hL hT hV;obtain⟨W,cE,ae,ak⟩:=il w 3 [af ((L:Int)-1)];go_enter Tryz.func70,Tryz.ntmps70;by_cases h1:(L:Int)-1<1
 . have hv:=Hv.out;rw[if_pos (.inl h1)]at hv;subst hv;have Hb:=ae.1;go_wp2;exact bodyPost_ret (v:=af 0) (by simp[results,Tryz.results70,go_sem,ak]) rfl ⟨rfl,df⟩
 . by_cases h2:8<(L:Int)-1
   . have hv:=Hv.out;rw[if_pos (.inr (.inl h2))]at hv;subst hv;have Hb:=ae.1;go_wp2;exact bodyPost_ret (v:=af 0) (by simp[results,Tryz.results70,go_sem,ak]) rfl ⟨rfl,df⟩
   . have n0:W.cell? ⟨w.heap.size,0,none⟩=some (af ((L:Int)-1)):=ae.2.1.out.cell 0;have lK:=aj (fJ.out w.heap.size W n0 (dL.out.below ae.1.out));go_wp2_with fail;refine aJ ae (lK.out) λw1 ae ak=>?_;cases T with
     |true=>have hv:=Hv.out;rw[if_pos (.inr (.inr rfl))]at hv;subst hv;have Hb:=ae.1;go_wp2;exact bodyPost_ret (v:=af 0) (by simp[results,Tryz.results70,go_sem,ak]) rfl ⟨rfl,df⟩
     |false=>have hv:=Hv.out;rw[if_neg (by rintro(h|h|h);omega;omega;cases h)]at hv;subst hv;have Hb:=ae.1;go_wp2;exact bodyPost_ret (v:=af ((L:Int)-1)) (by simp[results,Tryz.results70,go_sem,ak]) rfl ⟨rfl,df⟩
def awa (bn:Nat)(a0:Option Addr)(N c0:Nat)(a:Option Addr)(n cap:Nat)(w:World)(hN:w.cell? ⟨bn,0,none⟩=some (.slice a0 N c0)):
 Cv 269 #[.slice a n cap,.pointer (some ⟨bn,0,none⟩)] w (ag (CU (N:Int) (.slice a n cap))):=by
 have Hb:=hbz w;go_enter Tryz.func269,Tryz.ntmps269;go_wp2;refine bodyPost_ret (results_tmp rfl _ _ _) rfl ⟨?_,Hb.out⟩;simp only[CU,AB];by_cases h:(n:Int)=(N:Int)<;>simp[h]
def yG (rows:List (List Raw)):Int:=if 8<rows.length\/(rows.any λr=>decide ((r.length:Int)≠(rows.length:Int)))then 1 else 0
def WG (a:Option Addr)(L cap:Nat)(rows:List (List Raw))(w:World)(hL:rows.length=L)(hl:L<=1099511627776)(ha:bJ w a rows):
 Cv 217 #[.slice a L cap] w (af (yG rows)):=by
 obtain⟨vals,hvl,hat,hp⟩:=ha;have Cc:=λN=>abl (w:=w) N hvl hp;have hcl:∀(bn:Nat) (W:World),W.cell? ⟨bn,0,none⟩=some (.slice a L cap)->At W a vals->Cv 268 #[.slice a L cap,.func (.func 269) #[] #[.pointer (some ⟨bn,0,none⟩)]] W (ag (rows.any λr=>decide ((r.length:Int)≠(L:Int)))):=by intro bn W hc hA;rw[<-Cc];refine aqv a L cap vals 269 #[.pointer (some ⟨bn,0,none⟩)] (CU (L:Int)) W (by rw[hvl,hL]) hl hA (enters_of Tryz.func269 zk rfl) (λv hv W' hb=>?_);obtain⟨i,hi,rfl⟩:=List.mem_iff_getElem.1 hv;obtain⟨a',cap',e,_⟩:=hp i (by rw[<-hvl];exact hi) hi;rw[e];exact awa bn a L cap a' _ cap' W' (cell_later hb hc)
 have hv:yG rows=if 8<L\/(rows.any λr=>decide ((r.length:Int)≠(L:Int)))=true then 1 else 0:=by unfold yG;rw[hL]
 obtain⟨T,hT⟩:=aB (rows.any λr=>decide ((r.length:Int)≠(L:Int)));rw[hT]at hv;simp only[hT]at hcl;obtain⟨fJ,dL,Hv⟩:=cw hcl hat hv;obtain⟨V,hV⟩:=aB (yG rows);rw[hV]at Hv⊢;clear hcl hat hv Cc hvl hp hL hT hV;obtain⟨W,cE,ae,ak⟩:=il w 198 [.slice a L cap];go_enter Tryz.func217,Tryz.ntmps217;by_cases h1:8<L
 . have hv:=Hv.out;rw[if_pos (.inl h1)]at hv;subst hv;have h2:(8:Int)<(L:Int):=by omega
   have Hb:=ae.1;go_wp2;exact bodyPost_ret (v:=af 1) (by simp[results,Tryz.results217,go_sem,ak]) rfl ⟨rfl,df⟩
 . have h2:¬(8:Int)<(L:Int):=by omega
   have n0:W.cell? ⟨w.heap.size,0,none⟩=some (.slice a L cap):=ae.2.1.out.cell 0;have lK:=aj (fJ.out w.heap.size W n0 (dL.out.below ae.1.out));go_wp2_with fail;refine aJ ae (lK.out) λw1 ae ak=>?_;cases T with
   |true=>have hv:=Hv.out;rw[if_pos (.inr rfl)]at hv;subst hv;have Hb:=ae.1;go_wp2;exact bodyPost_ret (v:=af 1) (by simp[results,Tryz.results217,go_sem,ak]) rfl ⟨rfl,df⟩
   |false=>have hv:=Hv.out;rw[if_neg (by rintro(h|h);omega;cases h)]at hv;subst hv;have Hb:=ae.1;go_wp2;exact bodyPost_ret (v:=af 0) (by simp[results,Tryz.results217,go_sem,ak]) rfl ⟨rfl,df⟩
def FH {rows:List (List Raw)}{n:Int}(h:lF rows=n)(h0:n≠0):1<=n/\n<=8/\(rows.length:Int)=n+1/\∀r∈rows,(r.length:Int)=n:=by
 unfold lF at h;dsimp only at h;split at h
 . exact absurd h.symm h0
 . rename_i hc
   simp only[not_or,Bool.not_eq_true,List.any_eq_false,decide_eq_true_eq,Decidable.not_not]at hc;obtain⟨h1,h2,h3⟩:=hc;refine⟨by omega,by omega,by omega,λr hr=>?_⟩;have:=h3 r hr;omega
def PQ {rows:List (List Raw)}{n:Nat}(h1:rows.length=n+1)(h2:∀r∈rows,r.length=n)(h3:1<=n)(h8:n<=8):lF rows=n:=by
 unfold lF;dsimp only;rw[if_neg]
 . omega
 . rintro(h|h|h)
   . omega
   . omega
   . rw[List.any_eq_true]at h;obtain⟨r,hr,h⟩:=h;have:=h2 r hr;simp[h1,this]at h
end Go.Proofs.YtbkopgdpcijfbaaGreatDoor
namespace Go.Proofs.YtbkopgdpcijfbaaGreatDoor
def zJ (g m:Dyadic)(ds:Nat->Dyadic)(bx:List Pr):Option Nat:=if bg (g-m)<0 then some 0 else CH (λk=>decide (bg (vI g ds (pW bx k) bx.length-m)<0)) 1
def OZ (k:Nat):Int:=2^(k+1)-1
end Go.Proofs.YtbkopgdpcijfbaaGreatDoor
namespace Go.Proofs.YtbkopgdpcijfbaaGreatDoor
open Go.RowKit
attribute [local go_sem ↓] Go.wp_at_zero Go.wp_at_succ
def Bv (w:World)(x:Value)(n v:Nat):Prop:=v<2^n/\((x=.slice none 0 0/\n=0)\/∃b o cap,x=.slice (some ⟨b,o,none⟩) n cap/\n<=cap/\∀j,j<n->w.cell? ⟨b,o+j,none⟩=some (.int .u8 (bd v j:Int)))
def Bv.below {w w':World}{x:Value}{n v:Nat}(h:Bv w x n v)(hb:Bw w w'):Bv w' x n v:=by
 refine⟨h.1,?_⟩;rcases h.2 with h|⟨b,o,cap,e,h1,hc⟩
 . exact .inl h
 . exact .inr ⟨b,o,cap,e,h1,λj hj=>cell_later hb (hc j hj)⟩
def Bv.aGy {w:World}{base:Nat}{e:TypeId}{x:Value}{n v:Nat}(h:w.ownsRow base e 1 x n (cM n (bd v)))(hx:v<2^n):Bv w x n v:=by
 refine⟨hx,?_⟩;rcases h.2 with⟨rfl,rfl⟩ |⟨g,cap,cur,rfl,hb,hg,h2,h3,h4,h5⟩
 . exact .inl ⟨rfl,rfl⟩
 . refine .inr ⟨g,0,cap,rfl,h2,λj hj=>?_⟩;have:=h.cells (g:=g) rfl j _ (oJ n (bd v) j hj);have e2:((⟨g,0,none⟩:Addr).add j)=⟨g,j,none⟩:=by simp[Addr.add];omega
   rw[Nat.zero_add,<-e2];exact this
def Bv.aGr {w:World}{b:Nat}{t:TypeId}{n v:Nat}(h:ar w b t (cM n (bd v)))(hv:v<2^n):Bv w (.slice (some ⟨b,0,none⟩) n n) n v:=
 ⟨hv,.inr ⟨b,0,n,rfl,Nat.le_refl _,λj hj=>by rw[Nat.zero_add,h.cell,oJ _ _ _ hj]⟩⟩
def aiB (b o n cap v:Nat)(w:World)(hm:n<=1099511627776)(hcap:n<=cap)(hc:∀j,j<n->w.cell? ⟨b,o+j,none⟩=some (.int .u8 (bd v j:Int)))(hv:v<2^n):
 Cl 267 #[.slice (some ⟨b,o,none⟩) n cap] w λe w'=>e=.returned (.slice (some ⟨b,o,none⟩) (bQ v) cap)/\w=w':=by
 have Hc:=aj hc;clear hc;have Hv:=aj hv;clear hv;go_enter Tryz.func267,Tryz.ntmps267;go_wp2_with fail;go_loop [3] (λx=>∃k:Nat,k<=n/\v<2^k/\x=af (k:Int)) (λx=>(intOf x).toNat)
 case atStart=>exact⟨n,Nat.le_refl _,Hv.out,rfl⟩
 case round=>
  obtain⟨k,hk,hvk,rfl⟩:=hrel;have qT:=aj hvk;clear hvk;by_cases h0:0<k
  . have hcell:w.cell? ⟨b,o+(k-1),none⟩=some (.int .u8 (bd v (k-1):Int)):=Hc.out _ zo;have bD:=yw n cap (k-1) ((k:Int)-1) (rfl:(some ⟨b,o,none⟩:Option Addr)=_) zo zo;rw[Nat.mul_one]at bD;by_cases hd:bd v (k-1)=0
    . have hd':((bd v (k-1):Int)==0)=true:=by simp[hd]
      have Hd:=aj hd;clear hd;go_wp2;refine⟨⟨k-1,by omega,?_,by go_num⟩,by simp[intOf];omega⟩;refine apG ?_ Hd.out;rw[show k-1+1=k by omega];exact qT.out
    . have hd':((bd v (k-1):Int)==0)=false:=by simp[hd]
      have Hd:=aj hd;clear hd;go_wp2;go_ret;have e:bQ v=k:=by have:=api (v:=v) (k:=k-1) (by rw[show k-1+1=k by omega];exact qT.out) (apF Hd.out);omega
      rw[e];exact⟨rfl,rfl⟩
  . obtain rfl:k=0:=by omega
    go_wp2;go_ret;have e:bQ v=0:=by have:=qT.out;simp at this;subst this;rfl
    rw[e];exact⟨rfl,rfl⟩
def aiC (w:World):
 Cl 267 #[.slice none 0 0] w λe w'=>e=.returned (.slice none 0 0)/\w=w':=by
 go_enter Tryz.func267,Tryz.ntmps267;go_wp2_with fail;refine wp_loop_rounds 1 ?_;rw[rounds_succ];go_wp2;go_ret;exact⟨rfl,rfl⟩
def Ii (x:Value)(lo:Nat):Prop:=∀b o n c,x=.slice (some ⟨b,o,none⟩) n c->lo<=b
def Xv (x:Value)(n v:Nat)(w:World)(hm:n<=1099511627776)(hx:Bv w x n v):
 Cl 267 #[x] w λe w'=>(∃y,e=.returned y/\Bv w y (bQ v) v/\∀lo,Ii x lo->Ii y lo)/\w=w':=by
 have hl:=kK hx.1;rcases hx.2 with⟨rfl,rfl⟩ |⟨b,o,cap,rfl,h1,hc⟩
 . refine(aiC w).mono ?_;rintro e w' ⟨rfl,rfl⟩;exact⟨⟨_,rfl,⟨uL v,.inl ⟨rfl,by omega⟩⟩,λ_ h=>h⟩,rfl⟩
 . refine(aiB b o n cap v w hm h1 hc hx.1).mono ?_;rintro e w' ⟨rfl,rfl⟩;exact⟨⟨_,rfl,⟨uL v,.inr ⟨b,o,cap,rfl,by omega,λj hj=>hc j zo⟩⟩,λlo h b' o' n' c' e=>by cases e;exact h _ _ _ _ rfl⟩,rfl⟩
def ay5 (b o n cap v:Nat)(w:World)(hm:n<=1099511627776)(hcap:n<=cap)(hc:∀j,j<n->w.cell? ⟨b,o+j,none⟩=some (.int .u8 (bd v j:Int)))(hv:v<2^n):
 Cv 213 #[.slice (some ⟨b,o,none⟩) n cap] w (ah (nt v)):=by
 have hle:=kK hv;have hcut:=aiB b o n cap v w hm hcap hc hv;have hvl:=uL v;have uv:Hid ((List.range ((bQ v+7)/8)).map (λj=>UInt8.ofNat (v/256^((bQ v+7)/8-1-j)%256))=nt v):=WS _ _ (Io v).1 (Io v).2;generalize hL:bQ v=L at*;obtain⟨nb,hnb⟩:=aB ((L+7)/8);have hmk:=yH (((L:Int)+7)/8) nb zo zo;have Vq:((L:Int)+7)/8=(nb:Int):=by omega
 rw[Vq]at hmk;rw[hnb]at uv;obtain⟨alA,Hc,Hv,uE,HL⟩:=gT hcut hc hv hvl hL;clear hcut hc hv hvl hL;go_enter Tryz.func213,Tryz.ntmps213;go_wp2_with fail;refine alA.out.mono ?_;rintro e w' ⟨rfl,rfl⟩;go_wp2_with fail;go_loopw[4] (λi wr=>∃k:Nat,k<=L/\i=af (k:Int)/\ar wr w.heap.size 5 (cM nb (λj=>v%2^k/256^(nb-1-j)%256))/\Bw w wr) (λi _=>L-(intOf i).toNat);case atStart=>
  refine⟨0,Nat.zero_le _,rfl,?_,zl⟩;have e:cM nb (λj=>v%2^0/256^(nb-1-j)%256)=cM nb λ_=>0:=uo λj hj=>by simp[Nat.mod_one]
  rw[e];exact ar.new _ _ _
 case round=>
  obtain⟨k,hk,rfl,hB,hb⟩:=hrel;by_cases hlt:k<L
  . have hq:k/8<nb:=by omega
    obtain⟨Z,hZ⟩:=aB (bd v k);have hZ1:Z<=1:=by rw[<-hZ];exact zI v k
    have lT:wr.cell? ⟨b,o+k,none⟩=some (.int .u8 (Z:Int)):=by rw[<-hZ];exact cell_later hb (Hc.out _ zo)
    obtain⟨A,hA⟩:=aB (v%2^k/256^(k/8)%256);have hcell:wr.cell? ⟨w.heap.size,nb-1-k/8,none⟩=some (.int .u8 (A:Int)):=by rw[hB.cell,oJ _ _ _ zo,show nb-1-(nb-1-k/8)=k/8 by omega,hA]
    have hfree:wr.frozen? ⟨w.heap.size,nb-1-k/8,none⟩=false:=hB.free _;obtain⟨hb1,hb2⟩:=apN v k;rw[hA,hZ]at hb1 hb2;have bP:=hB.set (nb-1-k/8) (.int .u8 ((A+Z*2^(k%8):Nat):Int));have hb3:=hb.setCell (p:=⟨w.heap.size,nb-1-k/8,none⟩) (Nat.le_refl _) (.int .u8 ((A+Z*2^(k%8):Nat):Int))
    rw[KV,uo (g:=λj=>v%2^(k+1)/256^(nb-1-j)%256) λj hj=>by
     by_cases og:j=nb-1-k/8
     . subst og;rw[if_pos rfl,show nb-1-(nb-1-k/8)=k/8 by omega,hb1]
     . rw[if_neg og,apO v k _ zo]]at bP
    obtain⟨fx,Hb⟩:=aK bP hb3;clear hB hb bP hb3 hb1 hA hZ;have He:Hid ((((A:Int)+(Z:Int) *2^(k%8))%256)=((A+Z*2^(k%8):Nat):Int)):=by
     show _=_
     have:((Z:Int) *2^(k%8))=((Z*2^(k%8):Nat):Int):=by simp
     rw[this];omega
    clear hb2;go_wp2;go_region
    go_wp2;go_roundw;case rel=>rw[He.out];exact⟨k+1,by omega,by go_num,fx.out,Hb.out.drew⟩
    case measure=>exact bC
  . obtain rfl:k=L:=by omega
    rw[Nat.mod_eq_of_lt uE.out]at hB;have tO:=yP hB nb;rw[uv.out]at tO;have Hb:=aj hb;clear hb hB;go_wp2;go_ret;exact⟨rfl,Hb.out⟩
def ay6 (w:World):
 Cv 213 #[.slice none 0 0] w (.string (bs [])):=by
 have hmk:=yH 0 0 rfl zo;have tO:=yP (ar.new w 5 (cM 0 λ_=>0)) 0;go_enter Tryz.func213,Tryz.ntmps213;go_wp2_with fail;refine(aiC w).mono ?_;rintro e w' ⟨rfl,rfl⟩;go_wp2_with fail;refine wp_loop_rounds 1 ?_;rw[rounds_succ];go_wp2;go_ret;exact⟨rfl,zl⟩
def KL (x:Value)(n v:Nat)(w:World)(hm:n<=1099511627776)(hx:Bv w x n v):
 Cv 213 #[x] w (ah (nt v)):=by
 rcases hx.2 with⟨rfl,rfl⟩ |⟨b,o,cap,rfl,h1,hc⟩
 . have h0:=hx.1;obtain rfl:v=0:=by simpa using h0
   exact ay6 w
 . exact ay5 b o n cap v w hm h1 hc hx.1
def ajI (n:Nat)(f:Nat->Nat):cM (n+1) f=cM n f++[.int .u8 (f n:Int)]:=by unfold cM;rw[List.range_succ,List.map_append];rfl
def ayR (N:Nat)(w:World)(hN:N<WW):
 Cv 136 #[.int .u64 (N:Int)] w (ah (nt N)):=by
 obtain⟨i0,hi,hz0,hz1,hz2⟩:=info_parts Tryz.aGw;have hNb:bQ N<=64:=kK (by rw[mI]at hN;exact hN);have hW:=ke;go_enter Tryz.func136,Tryz.ntmps136;go_wp2_with fail;go_loopw[0,3] (λu v wr=>∃k:Nat,k<=bQ N/\u=.int .u64 ((N/2^k:Nat):Int)/\wr.ownsRow w.heap.size 5 1 v k (cM k (bd N))/\Bw w wr) (λu _ _=>(intOf u).toNat);case atStart=>exact⟨0,Nat.zero_le _,by simp,World.ownsRow_nil _ _ _ _,Below.refl _ _⟩
 case round=>
  obtain⟨k,hk,rfl,hown,hb⟩:=hrel;obtain⟨M,hM⟩:=aB (N/2^k);have wD:M<18446744073709551616:=by have:=Nat.div_le_self N (2^k);omega
  have HM:=aj hM;rw[hM];have uU:N/2^(k+1)=M/2:=by rw[Nat.pow_succ,<-Nat.div_div_eq_div_mul,hM]
  have Ji:bd N k=M%2:=by unfold bd;rw[hM]
  obtain⟨Bl,Dm⟩:=aK uU Ji;clear hM uU Ji hW hN;by_cases h0:0<M
  . have Nj:(0:Int)<(M:Int):=by omega
    have hkl:k<bQ N:=by
     rcases Nat.lt_or_ge k (bQ N)with h|h
     . exact h
     . have h1:N<2^k:=Nat.lt_of_lt_of_le (uL N) (Nat.pow_le_pow_right zd h);have:=HM.out;rw[Nat.div_eq_of_lt h1]at this;omega
    have hs0:=hb.size;have rT:=aj hown;clear hown;go_wp2_with (first| (at_builtin;refine wpList_append_own _ rfl _ _ 172 rfl w.heap.size 5 i0 (.int .u8 0) 1 1 Tryz.underlying172 hi hz0 hz1 hz2 rfl zd _ _ _ rfl (rT.out.alloc _) ⟨wr.heap.size,0,none⟩ 1 1 [.int .u8 ((M:Int)%2)] rfl rfl (cell_one_new _ _ _) zy zx zo zi ?_;intro v' w1 ho hg _;obtain⟨Ho,Hg⟩:=aK ho hg;clear ho hg));go_roundw;case rel=>
     refine⟨k+1,by omega,?_,?_,?_⟩
     . rw[Bl.out];go_num
     . rw[ajI,Dm.out];have e:((M%2:Nat):Int)=(M:Int)%2:=by omega
       rw[e];exact Ho.out
     . exact(hb.alloc hs0 _).grown Hg.out zi (λj e=>eo rT.out j e)
    case measure=>exact bC
  . obtain rfl:M=0:=by omega
    have hkN:N<2^k:=by have:=HM.out;exact(Nat.div_eq_zero_iff_lt (Nat.pow_pos zd)).1 this
    obtain⟨Qx,Hb⟩:=aK (Bv.aGy hown hkN) hb;clear hown hkN hb;go_wp2_with fail;refine(KL u3 k N wr zo Qx.out).mono ?_;rintro e w2 ⟨rfl,hb2⟩;have cX:=aj hb2;clear hb2;go_wp2;go_ret;exact⟨rfl,aI Hb.out cX.out⟩
def abk (a:Nat)(ha:a<256):bits .and .u8 (a:Int) 1=((a%2:Nat):Int):=by
 have h1:(BitVec.ofInt 8 (a:Int)).toNat=a:=by rw[BitVec.ofInt_natCast,BitVec.toNat_ofNat];exact Nat.mod_eq_of_lt zo
 show IntKind.u8.wrap ((BitVec.ofInt 8 (a:Int)&&&BitVec.ofInt 8 1).toNat:Int)=_
 rw[BitVec.toNat_and,h1,show(BitVec.ofInt 8 1).toNat=1 from rfl,Nat.and_one_is_mod,IntKind.wrap_u8];omega
def KI (l:List UInt8)(w:World)(hl:l.length<=68719476736):
 Cl 258 #[ah l] w λe w'=>(∃y,e=.returned y/\Bv w' y (bQ (nv l)) (nv l))/\Bw w w':=by
 obtain⟨i0,hi,hz0,hz1,hz2⟩:=info_parts Tryz.aGw;have hsz:(bs l).size=l.length:=jB l;go_enter Tryz.func258,Tryz.ntmps258;go_wp2_with fail;go_loopw[3,4,5] (λv i _ wr=>∃m:Nat,m<=l.length/\i=af ((l.length:Int)-1-(m:Int))/\wr.ownsRow w.heap.size 5 1 v (8*m) (cM (8*m) (bd (nv l)))/\Bw w wr) (λ_ i _ _=>(intOf i+1).toNat);case atStart=>exact⟨0,Nat.zero_le _,by go_num,World.ownsRow_nil _ _ _ _,Below.refl _ _⟩
 case round=>
  obtain⟨m,hm,rfl,hown,hb⟩:=hrel;obtain⟨rT,Hb⟩:=aK hown hb;clear hown hb;by_cases hlt:m<l.length
  . have hge:(m:Int)<=(l.length:Int)-1:=by omega
    have iJ:=Aw l ((l.length:Int)-1-(m:Int)) (l.length-1-m) zo zo;have alm:Hid (∀k,k<8->l[l.length-1-m].toNat/2^k%2=bd (nv l) (8*m+k)):=λk hk=>axa l m k hlt hk;have hC:=(l[l.length-1-m]'zo).toNat_lt;generalize hCe:l[l.length-1-m].toNat=C at*;clear hCe;go_wp2_with fail;go_loopw[3,5] (λv j wr=>∃k:Nat,k<=8/\j=af (k:Int)/\wr.ownsRow w.heap.size 5 1 v (8*m+k) (cM (8*m+k) (bd (nv l)))/\Bw w wr) (λ_ j _=>8-(intOf j).toNat);case atStart=>exact⟨0,Nat.zero_le _,rfl,rT.out,Hb.out⟩
    case round=>
     clear rT Hb;obtain⟨k,hk,rfl,hown,hb⟩:=hrel;obtain⟨rT,Hb⟩:=aK hown hb;have hs0:=hb.size;clear hown hb;by_cases hk8:k<8
     . obtain ⟨Z,hZ⟩:=aB (C/2^k%2);have hbk:=alm.out k hk8;rw[hZ]at hbk;have Gv:=aj hbk;clear hbk;have hand:bits .and .u8 ((C:Int)/2^k) 1=(Z:Int):=by
        have e:(C:Int)/2^k=((C/2^k:Nat):Int):=by simp
        have:=Nat.div_le_self C (2^k);rw[e,abk _ zo,hZ]
       clear hZ;go_wp2_with (first| (at_builtin;refine wpList_append_own _ rfl _ _ 172 rfl w.heap.size 5 i0 (.int .u8 0) 1 1 Tryz.underlying172 hi hz0 hz1 hz2 rfl zd _ _ _ rfl (rT.out.alloc _) ⟨wr.heap.size,0,none⟩ 1 1 [.int .u8 (Z:Int)] rfl rfl (cell_one_new _ _ _) zy zx zo zi ?_;intro v' w1 ho hg _;obtain⟨Ho,Hg⟩:=aK ho hg;clear ho hg));go_roundw;case rel=>
        refine⟨k+1,by omega,?_,?_,?_⟩
        . go_num
        . rw[<-Nat.add_assoc,ajI,<-Gv.out];exact Ho.out
        . exact(Hb.out.alloc hs0 _).grown Hg.out zi (λj e=>eo rT.out j e)
       case measure=>exact bC
     . obtain rfl:k=8:=by omega
       go_wp2;go_roundw;case rel=>exact⟨m+1,by omega,by go_num,rT.out,Hb.out⟩
       case measure=>exact bC
  . obtain rfl:m=l.length:=by omega
    have Qx:=aj (Bv.aGy rT.out (Fq l));clear hlt;go_wp2_with fail;refine(Xv u3 (8*l.length) (nv l) wr zo Qx.out).mono ?_;rintro e w2 ⟨⟨y,rfl,hy,_⟩,rfl⟩;have Hy:=aj hy;clear hy;go_wp2;go_ret;exact⟨⟨_,rfl,Hy.out⟩,Hb.out⟩
def PC (x:Value)(n v i:Nat)(w:World)(hx:Bv w x n v)(hi:i<=1099511627776)(hn:n<=1099511627776):
 Cl 311 #[x,af (i:Int)] w λe w'=>e=.returned (.int .u8 (bd v i:Int))/\w=w':=by
 obtain⟨hv,h⟩:=hx;by_cases hlt:i<n
 . rcases h with⟨rfl,h0⟩ |⟨b,o,cap,rfl,h1,hc⟩
   . omega
   . have hcell:=hc i hlt;have bD:=yw n cap i (i:Int) (rfl:(some ⟨b,o,none⟩:Option Addr)=_) hlt rfl;rw[Nat.mul_one]at bD;clear hc hv;go_enter Tryz.func311,Tryz.ntmps311;go_wp2;go_ret;exact⟨rfl,rfl⟩
 . have h0:bd v i=0:=apb hv zo;have H0:=aj h0;clear h0 hv;rcases h with⟨rfl,h0⟩ |⟨b,o,cap,rfl,h1,hc⟩
   . subst h0;go_enter Tryz.func311,Tryz.ntmps311;go_wp2;go_ret;exact⟨by rw[H0.out];rfl,rfl⟩
   . clear hc;go_enter Tryz.func311,Tryz.ntmps311;go_wp2;go_ret;exact⟨by rw[H0.out];rfl,rfl⟩
def Bv.len {w:World}{x:Value}{n v:Nat}(h:Bv w x n v):∃a cap,x=.slice a n cap:=by
 rcases h.2 with⟨rfl,rfl⟩ |⟨b,o,cap,rfl,_⟩
 . exact⟨_,_,rfl⟩
 . exact⟨_,_,rfl⟩
def ayE (x y:Value)(n m v u:Nat)(w:World)(hx:Bv w x n v)(hy:Bv w y m u)(hn:n<=1099511627776)(hm:m<=1099511627776):
 Cl 294 #[x,y] w λe w'=>e=.returned (af (dx v u))/\w=w':=by
 obtain⟨a,cap,tZ⟩:=hx.len;obtain⟨a',cap',Wh⟩:=hy.len;have Ad:=λi (hi:i<=1099511627776)=>PC x n v i w hx hi hn;have hby:=λi (hi:i<=1099511627776)=>PC y m u i w hy hi hm;have hv:=hx.1;have hu:=hy.1;subst tZ;subst Wh;obtain⟨Qy,Qz,Hv,Hu⟩:=dv Ad hby hv hu;clear Ad hby hv hu hx hy;obtain⟨M,hM⟩:=aB (max n m);have hMI:max (n:Int) (m:Int)=(M:Int):=by omega
 have bR:Hid (v/2^M=u/2^M):=by
  show _=_
  rw[Nat.div_eq_of_lt (Nat.lt_of_lt_of_le Hv.out (Nat.pow_le_pow_right zd zo)),Nat.div_eq_of_lt (Nat.lt_of_lt_of_le Hu.out (Nat.pow_le_pow_right zd zo))]
 have wD:M<=1099511627776:=by omega
 clear hM;go_enter Tryz.func294,Tryz.ntmps294;go_wp2_with fail;go_loop [5] (λi=>∃k:Nat,k<=M/\v/2^k=u/2^k/\i=af ((k:Int)-1)) (λi=>(intOf i+1).toNat)
 case atStart=>exact⟨M,Nat.le_refl _,bR.out,rfl⟩
 case round=>
  obtain⟨k,hk,hvk,rfl⟩:=hrel;have qT:=aj hvk;clear hvk;by_cases h0:0<k
  . obtain⟨j,rfl⟩:∃j,k=j+1:=⟨k-1,by omega⟩;have Ad:=Qy.out j zo;have hby:=Qz.out j zo;obtain⟨tj,Hgt,LP⟩:=cw (λh=>abt (v:=v) (u:=u) qT.out h) (λh=>abt (v:=u) (u:=v) qT.out.symm h) (λh=>apa (v:=v) (u:=u) qT.out h);have hp1:=zI v j;have hq1:=zI u j;generalize bd v j=p at*;generalize bd u j=q at*;obtain⟨H1,H2⟩:=aK Ad hby;clear Ad hby;have hj:((j+1:Nat):Int)-1=(j:Int):=by omega
    rw[hj];clear hj h0;go_wp2_with fail;refine H1.out.mono ?_;rintro e w' ⟨rfl,rfl⟩;go_wp2_with fail;refine H2.out.mono ?_;rintro e w' ⟨rfl,rfl⟩;by_cases Cx:p<q
    . have aul:(p:Int)<(q:Int):=by omega
      go_wp2;go_ret;have:=tj.out Cx;exact⟨by unfold dx;rw[if_pos this];rfl,rfl⟩
    . have aul:¬(p:Int)<(q:Int):=by omega
      go_wp2_with fail;refine H1.out.mono ?_;rintro e w' ⟨rfl,rfl⟩;go_wp2_with fail;refine H2.out.mono ?_;rintro e w' ⟨rfl,rfl⟩;by_cases hqp:q<p
      . have auo:(q:Int)<(p:Int):=by omega
        go_wp2;go_ret;have:=Hgt.out hqp;exact⟨by unfold dx;rw[if_neg zo,if_pos this];rfl,rfl⟩
      . have auo:¬(q:Int)<(p:Int):=by omega
        go_wp2;refine⟨⟨j,by omega,LP.out zo,by go_num⟩,by simp[intOf]⟩
  . obtain rfl:k=0:=by omega
    have he:v=u:=by simpa using qT.out
    go_wp2;go_ret;exact⟨by unfold dx;rw[if_neg zo,if_neg zo];rfl,rfl⟩
def ayP (x y:Value)(n m v u:Nat)(w:World)(hx:Bv w x n v)(hy:Bv w y m u)(hn:n<=1099511627776)(hm:m<=1099511627776)(yu:u<=v):
 Cl 295 #[x,y] w λe w'=>(∃z,e=.returned z/\Bv w' z n (v-u)/\Ii z w.heap.size)/\Bw w w':=by
 obtain⟨a,cap,tZ⟩:=hx.len;obtain⟨a',cap',Wh⟩:=hy.len;have Ad:=λW (hW:Bw w W) i (hi:i<=1099511627776)=>PC x n v i W (hx.below hW) hi hn;have hby:=λW (hW:Bw w W) i (hi:i<=1099511627776)=>PC y m u i W (hy.below hW) hi hm;have BH:Hid (v-u<2^n):=by show _<_;have:=hx.1;omega
 subst tZ;subst Wh;obtain⟨Qy,Qz,Ie⟩:=cw Ad hby yu;clear Ad hby hx hy yu;have hmk:=yH (n:Int) n rfl zo;go_enter Tryz.func295,Tryz.ntmps295;go_wp2_with fail;go_loopw[6,7,8] (λb i _ wr=>∃k:Nat,k<=n/\i=af (k:Int)/\b=.int .u8 (bb v u k:Int)/\ar wr w.heap.size 5 (cM n (λj=>if j<k then bd (v-u) j else 0))/\Bw w wr) (λ_ i _ _=>n-(intOf i).toNat);case atStart=>
  refine⟨0,Nat.zero_le _,rfl,by rw[ao8];rfl,?_,zl⟩;have e:cM n (λj=>if j<0 then bd (v-u) j else 0)=cM n λ_=>0:=uo λj hj=>by rw[if_neg zo]
  rw[e];exact ar.new _ _ _
 case round=>
  obtain⟨k,hk,rfl,rfl,hB,hb⟩:=hrel;by_cases hlt:k<n
  . obtain⟨H1,H2⟩:=aK (Qy.out wr hb k zo) (Qz.out wr hb k zo);have hs:=ao7 v u k;have hd:=ao6 v u k Ie.out;have hp:=zI v k;have hq:=zI u k;have hr:=abp v u k;have hcell:wr.cell? ⟨w.heap.size,k,none⟩=some (.int .u8 0):=by rw[hB.cell,oJ _ _ _ hlt,if_neg zo];rfl
    have hfree:wr.frozen? ⟨w.heap.size,k,none⟩=false:=hB.free _;have bP:=hB.set k (.int .u8 ((bd (v-u) k:Nat):Int))
    rw[KV,uo (g:=λj=>if j<k+1 then bd (v-u) j else 0) λj hj=>by
     by_cases e:j=k
     . subst e;rw[if_pos rfl,if_pos zo]
     . rw[if_neg e];by_cases e2:j<k
       . rw[if_pos e2,if_pos zo]
       . rw[if_neg e2,if_neg zo]]at bP
    obtain⟨fx,Hb⟩:=aK bP (hb.setCell (p:=⟨w.heap.size,k,none⟩) (Nat.le_refl _) (.int .u8 ((bd (v-u) k:Nat):Int)));clear hB bP hb;generalize bd v k=p at*;generalize bd u k=q at*;generalize bb v u k=r at*;generalize bd (v-u) k=z at*;have Hs:=aj hs;clear hs;obtain⟨S,hS⟩:=aB (2+p-q-r);have hS3:S<=3:=by omega
    have hw1:IntKind.u8.wrap (2+(p:Int))=2+(p:Int):=by rw[IntKind.wrap_u8];omega
    have hw2:IntKind.u8.wrap (2+(p:Int)-(q:Int))=2+(p:Int)-(q:Int):=by rw[IntKind.wrap_u8];omega
    have hw3:IntKind.u8.wrap (2+(p:Int)-(q:Int)-(r:Int))=(S:Int):=by rw[IntKind.wrap_u8];omega
    have hand:bits .and .u8 (S:Int) 1=(z:Int):=by rw[abk S zo,<-hd];omega
    obtain⟨HS,Hd⟩:=aK hS hd;clear hS hd;go_wp2_with fail;refine H1.out.mono ?_;rintro e w' ⟨rfl,rfl⟩;go_wp2_with fail;refine H2.out.mono ?_;rintro e w' ⟨rfl,rfl⟩;go_wp2;go_roundw;case rel=>refine⟨k+1,by omega,by go_num,?_,fx.out,Hb.out⟩;rw[Hs.out];have:=HS.out;congr 1;split<;>omega
    case measure=>exact bC
  . obtain rfl:k=n:=by omega
    rw[uo (g:=bd (v-u)) λj hj=>by rw[if_pos hj]]at hB;obtain⟨Hz,Hb⟩:=aK (Bv.aGr hB BH.out) hb;clear hB hb;go_wp2;go_ret;exact⟨⟨_,rfl,Hz.out,λb o n' c e=>by cases e;exact Nat.le_refl _⟩,Hb.out⟩
end Go.Proofs.YtbkopgdpcijfbaaGreatDoor
namespace Go.Proofs.YtbkopgdpcijfbaaGreatDoor
open Go.RowKit
abbrev Trm:=List UInt8×Raw
def aY (t:Trm):List Value:=[ah t.1,ag t.2.1,ah t.2.2.1,af t.2.2.2]
def At.term {w:World}{a:Option Addr}{ts:List Trm}(h:At w a (ts.flatMap aY))(k:Nat)(hk:k<ts.length){l:List UInt8}{s:Bool}{m:List UInt8}{e:Int}(hx:ts[k]=(l,s,m,e)):
 ∃b o,a=some ⟨b,o,none⟩/\aZ w b (o+k*4) [ah l,ag s,ah m,af e]:=by
 obtain⟨b,o,hab,hcs⟩:=h.elem (f:=aY) (sz:=4) (λ_=>rfl) zd k hk;refine⟨b,o,hab,λj hj=>?_⟩;have:=hcs j hj;rw[hx]at this;rw[this];unfold aY;rw[List.getElem?_eq_getElem (by simpa using hj)]
def zR (V:Int)(l:List UInt8)(x:Raw):Bool:=fQ l V&& !(bg (au x)==0)&&(canon (au x)==x)
def nS (V:Int)(ts:List Trm)(k:Nat):Bool:=zR V (ts.getD k default).1 (ts.getD k default).2&&(k==0||Op.bytesLess (bs (ts.getD (k-1) default).1).toList (bs (ts.getD k default).1).toList)
def mC (V:Int)(ts:List Trm):Int:=if ¬(0<=V/\V<=12)then 1 else if 4096<ts.length then 3 else if(List.range ts.length).all (nS V ts)then 0 else 1
end Go.Proofs.YtbkopgdpcijfbaaGreatDoor
