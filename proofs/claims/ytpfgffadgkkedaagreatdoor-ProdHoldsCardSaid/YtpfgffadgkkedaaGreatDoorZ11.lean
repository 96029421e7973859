/- Small facts that many walks share: numbers in memory,windows,own rows. -/
import Derived.Test.YtpfgffadgkkedaaGreatDoorZ7
import Derived.Test.YtpfgffadgkkedaaGreatDoorZ9
import Derived.Test.YtpfgffadgkkedaaGreatDoorZ10
import Derived.Carry
import Derived.Maps.AppendAt
import Derived.Maps.OwnIn
import Derived.Maps.Own
import Derived.Maps.Views
import Derived.Maps.Keyed
import Derived.Maps.OwnSet
import Derived.Shelf.Abstract
import Derived.Shelf.RegionOpen
import Derived.OwnWalkIn
import Derived.TacticsInMore
import Derived.LoopNIn
import Derived.LoopIn
import Derived.Lib.BufferWrite
import Derived.Deep.WholeRow
import Derived.Test.YtpfgffadgkkedaaGreatDoorZ1
import Derived.Test.YtpfgffadgkkedaaGreatDoorZ6
set_option linter.all false
set_option maxRecDepth 100000
set_option maxHeartbeats 16000000
namespace Go.Proofs.YtpfgffadgkkedaaGreatDoor
open Go.RowKit
attribute [local go_sem ↓] Go.wp_at_zero Go.wp_at_succ
def hp (k:Nat):Dyadic:=Dyadic.ofIntWithPrec 1 k
def amR (k:Nat):hp (k+1)+hp (k+1)=hp k:=by unfold hp;rw[rV];exact ow 1 1 k
def amT :hp 0=1:=rfl
def amS :hp 1+hp 1=1:=by rw[amR 0,amT]
def acu (D:Dyadic)(k:Nat):dval (au (dN D),nt (dN D).natAbs,dE D+ -(k:Int))=D*hp k:=by
 have h:=bD D;unfold dval canon at h;unfold dval hp;simp only[dX]at h⊢;conv=>rhs;rw[<-h]
 rw[uf,Int.mul_one];congr 1;omega
def amQ (k:Nat):Sm (k+1) (hp k):=by
 refine⟨2,?_,?_⟩
 . unfold hp;rw[<-ow 1 1 k];rfl
 . have:2^2<=2^(2* (k+1)):=Nat.pow_le_pow_right zd zo;omega
def Tryz.awK :(Tryz.prog.info? 45).map (λi=>(i.zero,i.size,i.bytes))=some (some (.agg #[ag false,.string (bs []),af 0]),3,32):=by kernel_rfl
def dC (ds:List Dyadic):List Value:=ds.flatMap λd=>aY (canon d)
def ajZ (ds:List Dyadic):(dC ds).length=ds.length*3:=jJ _ 3 (λ_=>rfl) ds
def Gv (a b:List Dyadic):dC (a++b)=dC a++dC b:=by unfold dC;rw[List.flatMap_append]
def Ex {Y:Nat->Prop}{W W':World}{base:Nat}{e:TypeId}{size:Nat}{v:Value}{n:Nat}{xs:List Value}(h:W.ownsRow base e size v n xs)(hc:Chg Y W W')(hy:∀b,v.ownBlock=some b->¬Y b):W'.ownsRow base e size v n xs:=by
 refine⟨h.1,?_⟩;rcases h.2 with h1|⟨g,cap,cur,rfl,hb,hg,h2,h3,h4,h5⟩
 . exact .inl h1
 . exact .inr ⟨g,cap,cur,rfl,hb,(hc.block g (Array.getElem?_eq_some_iff.1 hg).1 (hy g rfl)).trans hg,h2,h3,h4,h5⟩
def cO {W:World}{base:Nat}{e:TypeId}{size:Nat}{v:Value}{n:Nat}{xs:List Value}(h:W.ownsRow base e size v n xs):∃a cap,v=.slice a n cap/\At W a xs/\∀b o,a=some ⟨b,o,none⟩->base<=b:=by
 rcases h.2 with⟨rfl,rfl⟩ |⟨g,cap,cur,rfl,hb,hg,h2,h3,h4,h5⟩
 . refine⟨none,0,rfl,.inl ?_,λb o e=>by cases e⟩;have:=h.1;simpa using this
 . refine⟨_,cap,rfl,.inr ⟨g,0,rfl,λj hj=>?_⟩,λb o e=>by cases e;exact hb⟩;have:=h.cells (g:=g) rfl j (xs[j]) (by simp[hj]);rw[Nat.zero_add];have e2:((⟨g,0,none⟩:Addr).add j)=⟨g,j,none⟩:=by simp[Addr.add];omega
   rw[e2]at this;rw[this];simp[hj]
def aR (w:World)(b o:Nat)(cs:List Value):Prop:=∀j (h:j<cs.length),w.cell? ⟨b,o+j,none⟩=some cs[j]
def aR.cell {w:World}{b o:Nat}{cs:List Value}(h:aR w b o cs)(j:Nat)(hj:j<cs.length):w.cell? ⟨b,o+j,none⟩=some cs[j]:=h j hj
def aR.w1 {w:World}{b o:Nat}{x0:Value}(h:aR w b o [x0]):w.cell? ⟨b,o,none⟩=some x0:=h 0 zm
def aR.w2 {w:World}{b o:Nat}{x0 x1:Value}(h:aR w b o [x0,x1]):w.cell? ⟨b,o,none⟩=some x0/\w.cell? ⟨b,o+1,none⟩=some x1:=⟨h 0 zm,h 1 zm⟩
def aR.w3 {w:World}{b o:Nat}{x0 x1 x2:Value}(h:aR w b o [x0,x1,x2]):w.cell? ⟨b,o,none⟩=some x0/\w.cell? ⟨b,o+1,none⟩=some x1/\w.cell? ⟨b,o+2,none⟩=some x2:=⟨h 0 zm,h 1 zm,h 2 zm⟩
def aR.w4 {w:World}{b o:Nat}{x0 x1 x2 x3:Value}(h:aR w b o [x0,x1,x2,x3]):w.cell? ⟨b,o,none⟩=some x0/\w.cell? ⟨b,o+1,none⟩=some x1/\w.cell? ⟨b,o+2,none⟩=some x2/\w.cell? ⟨b,o+3,none⟩=some x3:=⟨h 0 zm,h 1 zm,h 2 zm,h 3 zm⟩
def aR.below {w w':World}{b o:Nat}{cs:List Value}(h:aR w b o cs)(hb:Bw w w'):aR w' b o cs:=λj hj=>cell_later hb (h j hj)
instance {w :World} {b o:Nat} {cs:List Value}:QTr (aR w b o cs) w (λW=>aR W b o cs):=⟨λh _ k=>aR.below h k⟩
instance {w :World} {b o:Nat} {x:Value} {l:List Value}:QLz (aR w b o (x::l)) (b<w.heap.size):=⟨λh=>World.block_lt_of_cell? w _ (h 0 zm)⟩
instance {w :World} {b o:Nat} {x:Value}:QCe (aR w b o [x]) (w.cell? ⟨b,o,none⟩=some x):=⟨λh=>h.w1⟩
instance {w :World} {b o:Nat} {x y:Value}:QCe (aR w b o [x,y]) (w.cell? ⟨b,o,none⟩=some x/\w.cell? ⟨b,o+1,none⟩=some y):=⟨λh=>h.w2⟩
instance {w :World} {b o:Nat} {x y z:Value}:QCe (aR w b o [x,y,z]) (w.cell? ⟨b,o,none⟩=some x/\w.cell? ⟨b,o+1,none⟩=some y/\w.cell? ⟨b,o+2,none⟩=some z):=⟨λh=>h.w3⟩
instance {w :World} {b o:Nat} {x y z u:Value}:QCe (aR w b o [x,y,z,u]) (w.cell? ⟨b,o,none⟩=some x/\w.cell? ⟨b,o+1,none⟩=some y/\w.cell? ⟨b,o+2,none⟩=some z/\w.cell? ⟨b,o+3,none⟩=some u):=⟨λh=>h.w4⟩
instance {w :World} {b o:Nat} {x0 x1 x2 x3 x4:Value}:QCe (aR w b o [x0,x1,x2,x3,x4]) (w.cell? ⟨b,o,none⟩=some x0/\w.cell? ⟨b,o+1,none⟩=some x1/\w.cell? ⟨b,o+2,none⟩=some x2/\w.cell? ⟨b,o+3,none⟩=some x3/\w.cell? ⟨b,o+4,none⟩=some x4):=⟨λh=>⟨h 0 zm,h 1 zm,h 2 zm,h 3 zm,h 4 zm⟩⟩
instance {w :World} {b o:Nat} {x0 x1 x2 x3 x4 x5:Value}:QCe (aR w b o [x0,x1,x2,x3,x4,x5]) (w.cell? ⟨b,o,none⟩=some x0/\w.cell? ⟨b,o+1,none⟩=some x1/\w.cell? ⟨b,o+2,none⟩=some x2/\w.cell? ⟨b,o+3,none⟩=some x3/\w.cell? ⟨b,o+4,none⟩=some x4/\w.cell? ⟨b,o+5,none⟩=some x5):=⟨λh=>⟨h 0 zm,h 1 zm,h 2 zm,h 3 zm,h 4 zm,h 5 zm⟩⟩
instance {w :World} {b o:Nat} {x0 x1 x2 x3 x4 x5 x6:Value}:QCe (aR w b o [x0,x1,x2,x3,x4,x5,x6]) (w.cell? ⟨b,o,none⟩=some x0/\w.cell? ⟨b,o+1,none⟩=some x1/\w.cell? ⟨b,o+2,none⟩=some x2/\w.cell? ⟨b,o+3,none⟩=some x3/\w.cell? ⟨b,o+4,none⟩=some x4/\w.cell? ⟨b,o+5,none⟩=some x5/\w.cell? ⟨b,o+6,none⟩=some x6):=⟨λh=>⟨h 0 zm,h 1 zm,h 2 zm,h 3 zm,h 4 zm,h 5 zm,h 6 zm⟩⟩
instance {w :World} {b o:Nat} {x0 x1 x2 x3 x4 x5 x6 x7:Value}:QCe (aR w b o [x0,x1,x2,x3,x4,x5,x6,x7]) (w.cell? ⟨b,o,none⟩=some x0/\w.cell? ⟨b,o+1,none⟩=some x1/\w.cell? ⟨b,o+2,none⟩=some x2/\w.cell? ⟨b,o+3,none⟩=some x3/\w.cell? ⟨b,o+4,none⟩=some x4/\w.cell? ⟨b,o+5,none⟩=some x5/\w.cell? ⟨b,o+6,none⟩=some x6/\w.cell? ⟨b,o+7,none⟩=some x7):=⟨λh=>⟨h 0 zm,h 1 zm,h 2 zm,h 3 zm,h 4 zm,h 5 zm,h 6 zm,h 7 zm⟩⟩
def kW {w w':World}{b o:Nat}{cs:List Value}(h:Hid (aR w b o cs))(k:Bw w w'):Hid (aR w' b o cs):=h.out.below k
def aR.awI {w:World}{b o:Nat}{cs:List Value}(h:aR w b o cs)(a:Addr)(hne:b≠a.block)(u:Value):aR (w.setCell a u) b o cs:=λj hj=>fT hne (h j hj)
def kSx {w w':World}{b c p o:Nat}{cs vs:List Value}(h:Hid (aR w b c cs))(k:aN w p o vs w')(n:p≠b):Hid (aR w' b c cs):=by
 have g:∀(vs:List Value) (o:Nat) (w:World),aR w b c cs->aR (qP p o vs w) b c cs:=by
  intro vs;induction vs with
  |nil=>intro o w h;exact h
  |cons v vs ih=>intro o w h;exact ih _ _ (aR.awI h ⟨p,o,none⟩ (λe=>n e.symm) v)
 rcases k with rfl|rfl
 . exact g vs o _ h.out
 . exact g vs o w.drew h.out
instance {w :World} {b c k o:Nat} {cs vs:List Value}:QSto (aR w c k cs) w b o vs (λW=>aR W c k cs) (b≠c):=⟨λh _ g n=>(kSx (aj h) g n).out⟩
def aj0 (ds:List Dyadic)(i:Nat)(D:Dyadic):(((dC ds).set (i*3) (ag (au (dN D)))).set (i*3+1) (ah (nt (dN D).natAbs))).set (i*3+2) (af (dE D))=dC (ds.set i D):=by
 induction ds generalizing i with
 |nil=>simp[dC]
 | cons x ds ih=>
   have e:∀y:Dyadic,∀zs,dC (y::zs)=ag (au (dN y))::ah (nt (dN y).natAbs)::af (dE y)::dC zs:=λy zs=>rfl;cases i with
   |zero=>rw[e];rfl
   |succ i=>rw[List.set_cons_succ,e,e,<-ih i,show(i+1) *3=i*3+1+1+1 by omega];rfl
def zP (ds:List Dyadic):dC ds=(ds.map canon).flatMap aY:=by unfold dC;rw[List.flatMap_map]
def dA {P:Program}{fn:Func}{R:Ending->World->Prop}{e:Exit}{a:Act}{W:World}(S:World->Prop)(hS:S W)(h:∀W',S W'->bodyPost P fn R e a W'):bodyPost P fn R e a W:=h W hS
def ar.not_row {W:World}{B:Nat}{t e:TypeId}{cs:List Value}(h:ar W B t cs)(hte:t≠e){base size k:Nat}{v:Value}{xs:List Value}(hr:W.ownsRow base e size v k xs):some B≠v.ownBlock:=by
 rcases hr.2 with⟨rfl,_⟩ |⟨g,cap,cur,rfl,_,hgb,_⟩
 . simp[Value.ownBlock]
 . intro e';simp only[Value.ownBlock,Option.some.injEq]at e';subst e';have:=h.symm.trans hgb;simp at this;exact hte this.2
def ar.row {W W':World}{B:Nat}{t e:TypeId}{cs:List Value}(h:ar W B t cs)(hte:t≠e){base size k:Nat}{v:Value}{xs:List Value}(hr:W.ownsRow base e size v k xs)(hg:W.grownBy W' v.ownBlock):ar W' B t cs:=
 h.grown hg (h.not_row hte hr)
def ownsRow_below {W W':World}{base:Nat}{e:TypeId}{size:Nat}{v:Value}{n:Nat}{xs:List Value}(h:W.ownsRow base e size v n xs)(hb:Bw W W'):W'.ownsRow base e size v n xs:=by refine Ex (Y:=λ_=>False) h (Chg.of_below hb) (λ_ _ h=>h)
def cZ {W:World}{base:Nat}{e:TypeId}{size:Nat}{v:Value}{n:Nat}{xs:List Value}(h:W.ownsRow base e size v n xs):∀k,v.ownBlock=some k->base<=k:=λk hk=>(h.lt k hk).1
def jA {w:World}{b o:Nat}{x y z:Value}(h0:w.cell? ⟨b,o,none⟩=some x)(h1:w.cell? ⟨b,o+1,none⟩=some y)(h2:w.cell? ⟨b,o+2,none⟩=some z):aR w b o [x,y,z]:=by
 intro j hj;rcases j with _|_|_|j
 . exact h0
 . exact h1
 . exact h2
 . simp at hj;omega
def fJ {W:World}{b:Nat}{t:TypeId}{cs:List Value}(h:ar W b t cs):∀j u,cs[j]?=some u->W.cell? ((⟨b,0,none⟩:Addr).add j)=some u:=by
 intro j u hj;have e2:((⟨b,0,none⟩:Addr).add j)=⟨b,j,none⟩:=by simp[Addr.add];omega
 rw[e2,h.cell];exact hj
def At.num {W:World}{a:Option Addr}{cX:List Raw}(h:At W a (cX.flatMap aY))(k:Nat)(hk:k<cX.length){s:Bool}{m:List UInt8}{e:Int}(hx:cX[k]=(s,m,e)):
 ∃b o,a=some ⟨b,o,none⟩/\W.cell? ⟨b,o+k*3,none⟩=some (ag s)/\W.cell? ⟨b,o+k*3+1,none⟩=some (ah m)/\W.cell? ⟨b,o+k*3+2,none⟩=some (af e):=by
 obtain⟨b,o,ha,hc⟩:=h.elem (f:=aY) (sz:=3) (λ_=>rfl) zd k hk;rw[hx]at hc;exact⟨b,o,ha,by simpa[aY]using hc 0 zd,by simpa[aY]using hc 1 zd,by simpa[aY]using hc 2 zd⟩
end Go.Proofs.YtpfgffadgkkedaaGreatDoor
namespace Go.Proofs.YtpfgffadgkkedaaGreatDoor
open Go.RowKit
abbrev Trm:=List UInt8×Raw
def aH (t:Trm):List Value:=[ah t.1,ag t.2.1,ah t.2.2.1,af t.2.2.2]
def At.term {w:World}{a:Option Addr}{ts:List Trm}(h:At w a (ts.flatMap aH))(k:Nat)(hk:k<ts.length){l:List UInt8}{s:Bool}{m:List UInt8}{e:Int}(hx:ts[k]=(l,s,m,e)):
 ∃b o,a=some ⟨b,o,none⟩/\aR w b (o+k*4) [ah l,ag s,ah m,af e]:=by
 obtain⟨b,o,hab,hcs⟩:=h.elem (f:=aH) (sz:=4) (λ_=>rfl) zd k hk;refine⟨b,o,hab,λj hj=>?_⟩;have:=hcs j hj;rw[hx]at this;rw[this];unfold aH;rw[List.getElem?_eq_getElem (by simpa using hj)]
def uT (V:Int)(l:List UInt8)(x:Raw):Bool:=bZ l V&& !(bg (dval x)==0)&&(canon (dval x)==x)
def kO (V:Int)(ts:List Trm)(k:Nat):Bool:=uT V (ts.getD k default).1 (ts.getD k default).2&&(k==0||Op.bytesLess (bs (ts.getD (k-1) default).1).toList (bs (ts.getD k default).1).toList)
def gP (V:Int)(ts:List Trm):Int:=if ¬(0<=V/\V<=12)then 1 else if 4096<ts.length then 3 else if(List.range ts.length).all (kO V ts)then 0 else 1
end Go.Proofs.YtpfgffadgkkedaaGreatDoor
namespace Go.Proofs.YtpfgffadgkkedaaGreatDoor
def zJ (a:List UInt8):Op.bytesLess a a=false:=by
 induction a with
 |nil=>rfl
 |cons x a ih=>simp[Op.bytesLess,ih]
def Cy {a b c:List UInt8}(h:Op.bytesLess a b=true)(k:Op.bytesLess b c=true):Op.bytesLess a c=true:=by
 induction a generalizing b c with
 | nil=>
   cases c with
   |nil=>cases b<;>simp[Op.bytesLess]at k
   |cons z c=>simp[Op.bytesLess]
 | cons x a ih=>
   cases b with
   |nil=>simp[Op.bytesLess]at h
   | cons y b=>
     cases c with
     |nil=>simp[Op.bytesLess]at k
     | cons z c=>
       simp only[Op.bytesLess,Bool.or_eq_true,Bool.and_eq_true,decide_eq_true_eq,beq_iff_eq]at h k⊢;rcases h with h|⟨rfl,h⟩
       . rcases k with k|⟨rfl,k⟩
         . exact .inl (UInt8.lt_trans h k)
         . exact .inl h
       . rcases k with k|⟨rfl,k⟩
         . exact .inl k
         . exact .inr ⟨rfl,ih h k⟩
def zK {a b:List UInt8}(h:Op.bytesLess a b=false)(k:Op.bytesLess b a=false):a=b:=by
 induction a generalizing b with
 | nil=>cases b with
   |nil=>rfl
   |cons y b=>simp[Op.bytesLess]at h
 | cons x a ih=>cases b with
   |nil=>simp[Op.bytesLess]at k
   | cons y b=>
     simp only[Op.bytesLess,Bool.or_eq_false_iff,Bool.and_eq_false_iff,decide_eq_false_iff_not,beq_eq_false_iff_ne]at h k;have e:x=y:=by have h1:=UInt8.not_lt.1 h.1;have h2:=UInt8.not_lt.1 k.1;exact UInt8.le_antisymm h2 h1
     subst e;rw[ih (by rcases h.2 with h|h;exact absurd rfl h;exact h) (by rcases k.2 with h|h;exact absurd rfl h;exact h)]
def JQ (x y:Trm):Trm:=(x.1,canon (dval x.2+dval y.2))
def vN :Nat->List Trm->List Trm->List Trm
 |0,a,b=>a++b
 |_+1,[],b=>b
 |_+1,x::a,[]=>x::a
 |k+1,x::a,y::b=>if Op.bytesLess x.1 y.1 then x::vN k a (y::b)else if Op.bytesLess y.1 x.1 then y::vN k (x::a) b else JQ x y::vN k a b
def Qp (a b:List Trm)(j k:Nat)(hj:a.length+b.length<=j)(hk:a.length+b.length<=k):vN j a b=vN k a b:=by
 induction j generalizing k a b with
 |zero=>have ha:a=[]:=List.length_eq_zero_iff.1 zo;have hb:b=[]:=List.length_eq_zero_iff.1 zo;subst ha;subst hb;cases k<;>rfl
 | succ j ih=>
   cases k with
   |zero=>have ha:a=[]:=List.length_eq_zero_iff.1 zo;have hb:b=[]:=List.length_eq_zero_iff.1 zo;subst ha;subst hb;rfl
   | succ k=>
     cases a with
     |nil=>rfl
     | cons x a=>cases b with
       |nil=>rfl
       |cons y b=>simp only[List.length_cons]at hj hk;simp only[vN];rw[ih a (y::b) k zi zi,ih (x::a) b k zi zi,ih a b k zo zo]
def fM (a b:List Trm):List Trm:=vN (a.length+b.length) a b
def yh (b:List Trm):fM [] b=b:=by
 unfold fM;cases b with
 |nil=>rfl
 |cons y b=>rfl
def yi (a:List Trm):fM a []=a:=by
 unfold fM;cases a with
 |nil=>rfl
 |cons y b=>rfl
def ua (x y:Trm)(a b:List Trm):fM (x::a) (y::b)=if Op.bytesLess x.1 y.1 then x::fM a (y::b)else if Op.bytesLess y.1 x.1 then y::fM (x::a) b else JQ x y::fM a b:=by
 unfold fM;rw[show(x::a).length+(y::b).length=(a.length+b.length+1)+1 by simp;omega];simp only[vN]
 rw[Qp a (y::b) (a.length+b.length+1) (a.length+(y::b).length) zi zm,Qp (x::a) b (a.length+b.length+1) ((x::a).length+b.length) zi zm,
  Qp a b (a.length+b.length+1) (a.length+b.length) zo zo]
def abq (a b:List Trm):(fM a b).length<=a.length+b.length:=by
 obtain⟨n,hn⟩:=az (a.length+b.length);induction n using Nat.strongRecOn generalizing a b with
 | _ n ih=>
   cases a with
   |nil=>rw[yh];simp
   | cons x a=>cases b with
     |nil=>rw[yi];simp
     | cons y b=>
       rw[ua];simp only[List.length_cons]at hn⊢;split
       . have:=ih _ (by simp only[List.length_cons];omega) a (y::b) rfl;simp only[List.length_cons]at this⊢;omega
       . split
         . have:=ih _ (by simp only[List.length_cons];omega) (x::a) b rfl;simp only[List.length_cons]at this⊢;omega
         . have:=ih _ zo a b rfl;simp only[List.length_cons]at this⊢;omega
def bN :List Trm->List UInt8->Dyadic
 |[],_=>0
 |x::l,m=>(if x.1=m then dval x.2 else 0)+bN l m
def wW (a b:List Trm)(m:List UInt8):bN (a++b) m=bN a m+bN b m:=by
 induction a with
 |nil=>simp[bN]
 |cons x a ih=>simp only[List.cons_append,bN,ih];grind
def VA (a b:List Trm)(m:List UInt8):bN (fM a b) m=bN a m+bN b m:=by
 obtain⟨n,hn⟩:=az (a.length+b.length);induction n using Nat.strongRecOn generalizing a b with
 | _ n ih=>
   cases a with
   |nil=>rw[yh];simp[bN]
   | cons x a=>cases b with
     |nil=>rw[yi];simp[bN]
     | cons y b=>
       rw[ua];simp only[List.length_cons]at hn;split
       . have:=ih _ (by simp only[List.length_cons];omega) a (y::b) rfl;simp only[bN]at this⊢;rw[this];grind
       . split
         . have:=ih _ (by simp only[List.length_cons];omega) (x::a) b rfl;simp only[bN]at this⊢;rw[this];grind
         . rename_i h1 h2
           have:=ih _ zo a b rfl;have e:x.1=y.1:=zK (by simpa using h1) (by simpa using h2);simp only[bN,JQ,bD]at this⊢;rw[this,e];split<;>grind
def Up (l:List Trm):Prop:=l.Pairwise λx y=>Op.bytesLess x.1 y.1=true
def Jw (a b:List Trm):∀x∈fM a b,∃y∈a++b,y.1=x.1:=by
 obtain⟨n,hn⟩:=az (a.length+b.length);induction n using Nat.strongRecOn generalizing a b with
 | _ n ih=>
   intro z hz;cases a with
   |nil=>rw[yh]at hz;exact⟨z,by simp[hz],rfl⟩
   | cons x a=>cases b with
     |nil=>rw[yi]at hz;exact⟨z,by simpa using hz,rfl⟩
     | cons y b=>
       rw[ua]at hz;simp only[List.length_cons]at hn;split at hz
       . rcases List.mem_cons.1 hz with rfl|hz
         . exact⟨z,by simp,rfl⟩
         . obtain⟨u,hu,e⟩:=ih _ (by simp only[List.length_cons];omega) a (y::b) rfl z hz;exact⟨u,by simp at hu⊢;rcases hu with h|h|h<;>simp[h],e⟩
       . split at hz
         . rcases List.mem_cons.1 hz with rfl|hz
           . exact⟨z,by simp,rfl⟩
           . obtain⟨u,hu,e⟩:=ih _ (by simp only[List.length_cons];omega) (x::a) b rfl z hz;exact⟨u,by simp at hu⊢;rcases hu with h|h|h<;>simp[h],e⟩
         . rcases List.mem_cons.1 hz with rfl|hz
           . exact⟨x,by simp,rfl⟩
           . obtain⟨u,hu,e⟩:=ih _ zo a b rfl z hz;exact⟨u,by simp at hu⊢;rcases hu with h|h<;>simp[h],e⟩
def aoI (a b:List Trm)(ha:Up a)(hb:Up b):Up (fM a b):=by
 obtain⟨n,hn⟩:=az (a.length+b.length);induction n using Nat.strongRecOn generalizing a b with
 | _ n ih=>
   cases a with
   |nil=>rw[yh];exact hb
   | cons x a=>cases b with
     |nil=>rw[yi];exact ha
     | cons y b=>
       rw[ua];simp only[List.length_cons]at hn;obtain⟨ha1,ha2⟩:=List.pairwise_cons.1 ha;obtain⟨hb1,hb2⟩:=List.pairwise_cons.1 hb;split
       . rename_i h
         refine List.pairwise_cons.2 ⟨λz hz=>?_,ih _ (by simp only[List.length_cons];omega) a (y::b) ha2 hb rfl⟩;obtain⟨u,hu,e⟩:=Jw _ _ z hz;rw[<-e];rcases List.mem_append.1 hu with h2|h2
         . exact ha1 u h2
         . rcases List.mem_cons.1 h2 with rfl|h2
           . exact h
           . exact Cy h (hb1 u h2)
       . split
         . rename_i h0 h
           refine List.pairwise_cons.2 ⟨λz hz=>?_,ih _ (by simp only[List.length_cons];omega) (x::a) b ha hb2 rfl⟩;obtain⟨u,hu,e⟩:=Jw _ _ z hz;rw[<-e];rcases List.mem_append.1 hu with h2|h2
           . rcases List.mem_cons.1 h2 with rfl|h2
             . exact h
             . exact Cy h (ha1 u h2)
           . exact hb1 u h2
         . rename_i h1 h2
           have e:x.1=y.1:=zK (by simpa using h1) (by simpa using h2);refine List.pairwise_cons.2 ⟨λz hz=>?_,ih _ zo a b ha2 hb2 rfl⟩;obtain⟨u,hu,e2⟩:=Jw _ _ z hz;rw[<-e2];show Op.bytesLess x.1 u.1=true
           rcases List.mem_append.1 hu with h3|h3
           . exact ha1 u h3
           . rw[e];exact hb1 u h3
def rY :Nat->List Trm->List Trm
 |0,l=>l
 |k+1,l=>if l.length<2 then l else fM (rY k (l.take (l.length/2))) (rY k (l.drop (l.length/2)))
def acB (l:List Trm)(j k:Nat)(hj:l.length<=j)(hk:l.length<=k):rY j l=rY k l:=by
 induction j generalizing k l with
 |zero=>have h:l=[]:=List.length_eq_zero_iff.1 zo;subst h;cases k<;>simp[rY]
 | succ j ih=>
   cases k with
   |zero=>have h:l=[]:=List.length_eq_zero_iff.1 zo;subst h;simp[rY]
   | succ k=>
     simp only[rY];split
     . rfl
     . rw[ih (l.take (l.length/2)) k zi zi,ih (l.drop (l.length/2)) k zi zi]
def fO (l:List Trm):List Trm:=rY l.length l
def JP (l:List Trm)(h:l.length<2):fO l=l:=by
 unfold fO;cases l with
 |nil=>rfl
 |cons x l=>simp only[List.length_cons,rY];rw[if_pos (by simpa using h)]
def Rp (l:List Trm)(h:2<=l.length):fO l=fM (fO (l.take (l.length/2))) (fO (l.drop (l.length/2))):=by obtain⟨k,hk⟩:∃k,l.length=k+1:=⟨l.length-1,by omega⟩;unfold fO;rw[hk];simp only[rY];rw[if_neg zo,hk,acB (l.take ((k+1)/2)) k ((l.take ((k+1)/2)).length) zi (Nat.le_refl _),acB (l.drop ((k+1)/2)) k ((l.drop ((k+1)/2)).length) zi (Nat.le_refl _)]
def EK {Q:List Trm->List Trm->Prop}(h0:∀l,l.length<2->Q l l)(h1:∀a b c d,Q a c->Q b d->Q (a++b) (fM c d))(l:List Trm):Q l (fO l):=by
 obtain⟨n,hn⟩:=az l.length;induction n using Nat.strongRecOn generalizing l with
 | _ n ih=>
   by_cases h:l.length<2
   . rw[JP l h];exact h0 l h
   . rw[Rp l zo];have:=h1 _ _ _ _ (ih (l.take (l.length/2)).length zi (l.take (l.length/2)) rfl) (ih (l.drop (l.length/2)).length zi (l.drop (l.length/2)) rfl);rwa [List.take_append_drop]at this
def ajJ (l:List Trm)(m:List UInt8):bN (fO l) m=bN l m:=
 EK (Q:=λl r=>bN r m=bN l m) (λ_ _=>rfl) (λa b c d h1 h2=>by rw[VA,wW,h1,h2]) l
def arN (l:List Trm):Up (fO l):=
 EK (Q:=λ_ r=>Up r) (λl h=>by
  cases l with
  |nil=>exact List.Pairwise.nil
  | cons x l=>cases l with
    |nil=>exact List.pairwise_singleton _ _
    |cons y l=>simp at h;omega) (λa b c d h1 h2=>aoI c d h1 h2) l
def JO (l:List Trm):(fO l).length<=l.length:=
 EK (Q:=λl r=>r.length<=l.length) (λ_ _=>Nat.le_refl _) (λa b c d h1 h2=>by have:=abq c d;simp;omega) l
def arM (l:List Trm):∀x∈fO l,∃y∈l,y.1=x.1:=
 EK (Q:=λl r=>∀x∈r,∃y∈l,y.1=x.1) (λl _ x hx=>⟨x,hx,rfl⟩) (λa b c d h1 h2 x hx=>by
  obtain⟨y,hy,e⟩:=Jw c d x hx;rcases List.mem_append.1 hy with h|h
  . obtain⟨z,hz,e2⟩:=h1 y h;exact⟨z,by simp[hz],e2.trans e⟩
  . obtain⟨z,hz,e2⟩:=h2 y h;exact⟨z,by simp[hz],e2.trans e⟩) l
def fN (x:Trm):Bool:=!(bg (dval x.2)==0)
def aS (l:List Trm):List Trm:=((fO l).filter fN).map λx=>(x.1,canon (dval x.2))
def Good (l:List Trm):Prop:=Up l/\∀x∈l,dval x.2≠0/\x.2=canon (dval x.2)
def uR (X:Dyadic):(bg X==0)=false↔X≠0:=by
 have h:bg X=0↔X=0:=by
  constructor
  . intro h;have h1:dN X=0:=by
     unfold bg dL at h;by_cases h1:dN X<0
     . rw[if_pos h1]at h;cases h
     . rw[if_neg h1]at h;by_cases h2:dN X=0
       . exact h2
       . rw[if_neg h2]at h;cases h
    have h2:=qI X;rw[h1,ug]at h2;exact h2
  . rintro rfl;rfl
 rw[beq_eq_false_iff_ne];exact not_congr h
def Vz (l:List Trm)(m:List UInt8):bN (l.filter fN) m=bN l m:=by
 induction l with
 |nil=>rfl
 | cons x l ih=>
   rw[List.filter_cons];split
   . simp only[bN,ih]
   . rename_i h
     have h0:dval x.2=0:=Classical.byContradiction λhc=>h (by unfold fN;rw[(uR _).2 hc];rfl);simp only[bN,ih,h0];split<;>grind
def ajE (l:List Trm)(m:List UInt8):bN (l.map λx=>(x.1,canon (dval x.2))) m=bN l m:=by
 induction l with
 |nil=>rfl
 |cons x l ih=>simp only[List.map_cons,bN,ih,bD]
def oJ (l:List Trm)(m:List UInt8):bN (aS l) m=bN l m:=by unfold aS;rw[ajE,Vz,ajJ]
def asF {l:List Trm}(h:Up l):Up (l.map λx=>(x.1,canon (dval x.2))):=List.Pairwise.map _ (λ_ _ h=>h) h
def alD (l:List Trm)(h:Up l):Good ((l.filter fN).map λx=>(x.1,canon (dval x.2))):=by
 refine⟨asF (List.Pairwise.filter _ h),λx hx=>?_⟩;obtain⟨y,hy,rfl⟩:=List.mem_map.1 hx;have h2:=(List.mem_filter.1 hy).2;unfold fN at h2;refine⟨?_,?_⟩
 . show dval (canon (dval y.2))≠0
   rw[bD];exact(uR _).1 (by simpa using h2)
 . show canon (dval y.2)=canon (dval (canon (dval y.2)))
   rw[bD]
def ji (l:List Trm):Good (aS l):=alD _ (arN l)
def jH (l:List Trm):(aS l).length<=l.length:=by unfold aS;rw[List.length_map];exact Nat.le_trans (List.length_filter_le _ _) (JO l)
def VB (l:List Trm)(m:List UInt8)(h:∀x∈l,x.1≠m):bN l m=0:=by
 induction l with
 |nil=>rfl
 |cons x l ih=>simp only[bN];rw[if_neg (h x zm),ih (λy hy=>h y (by simp[hy]))];grind
def Good.tail {x:Trm}{l:List Trm}(h:Good (x::l)):Good l:=⟨(List.pairwise_cons.1 h.1).2,λy hy=>h.2 y (by simp[hy])⟩
def Good.off {x:Trm}{l:List Trm}(h:Good (x::l)):bN l x.1=0:=by refine VB _ _ (λy hy e=>?_);have:=(List.pairwise_cons.1 h.1).1 y hy;rw[e,zJ]at this;cases this
def Good.head {x:Trm}{l:List Trm}(h:Good (x::l)):bN (x::l) x.1=dval x.2:=by simp only[bN,if_pos,h.off];grind
def Good.before {x y:Trm}{l:List Trm}(h:Good (y::l))(hx:Op.bytesLess x.1 y.1=true):bN (y::l) x.1=0:=by
 refine VB _ _ (λz hz e=>?_);rcases List.mem_cons.1 hz with rfl|hz
 . rw[e,zJ]at hx;cases hx
 . have:=Cy hx ((List.pairwise_cons.1 h.1).1 z hz);rw[e,zJ]at this;cases this
def Nz {a b:List Trm}(ha:Good a)(hb:Good b)(h:∀m,bN a m=bN b m):a=b:=by
 induction a generalizing b with
 | nil=>
   cases b with
   |nil=>rfl
   |cons y b=>have:=h y.1;rw[hb.head]at this;exact absurd this.symm (hb.2 y zm).1
 | cons x a ih=>
   cases b with
   |nil=>have:=h x.1;rw[ha.head]at this;exact absurd this (ha.2 x zm).1
   | cons y b=>
     have h1:Op.bytesLess x.1 y.1=false:=by
      cases hc:Op.bytesLess x.1 y.1 with
      |false=>rfl
      |true=>have:=h x.1;rw[ha.head,hb.before hc]at this;exact absurd this (ha.2 x zm).1
     have h2:Op.bytesLess y.1 x.1=false:=by
      cases hc:Op.bytesLess y.1 x.1 with
      |false=>rfl
      |true=>have:=h y.1;rw[hb.head,ha.before hc]at this;exact absurd this.symm (hb.2 y zm).1
     have e1:x.1=y.1:=zK h1 h2;have e2:dval x.2=dval y.2:=by have:=h x.1;rw[ha.head]at this;rw[this,e1,hb.head]
     have e3:x=y:=by refine Prod.ext e1 ?_;rw[(ha.2 x zm).2,(hb.2 y zm).2,e2]
     subst e3
     rw[ih ha.tail hb.tail (λm=>by
      have:=h m;simp only[bN]at this;generalize (if x.1=m then dval x.2 else 0)=u at this
      grind)]
end Go.Proofs.YtpfgffadgkkedaaGreatDoor
namespace Go.Proofs.YtpfgffadgkkedaaGreatDoor
open Go.RowKit
attribute [local go_sem ↓] Go.wp_at_zero Go.wp_at_succ
def uj (a b:List UInt8):Int:=if Op.bytesLess a b then-1 else if Op.bytesLess b a then 1 else 0
def ary (l:List UInt8)(s:Bool)(m:List UInt8)(e:Int)(l':List UInt8)(s':Bool)(m':List UInt8)(e':Int)(w:World):
 Cv 231 #[.agg #[ah l,ag s,ah m,af e],.agg #[ah l',ag s',ah m',af e']] w (af (uj l l')):=by
 obtain⟨R,hR⟩:=az (uj l l');unfold uj at hR;rw[show uj l l'=R from hR];obtain⟨W,bX,ae,ai⟩:=jR w 111 [ah l,ag s,ah m,af e] 111 [ah l',ag s',ah m',af e'];cases h1:Op.bytesLess l l' with
 | true=>
   rw[h1]at hR;simp only[if_true]at hR;subst hR;have h2:Op.bytesLess (bs l).toList (bs l').toList=true:=by rw[gy,gy];exact h1
   clear h1;go_enter Tryz.func231,Tryz.ntmps231;go_wp2;go_ret;exact⟨rfl,ae.1.out⟩
 | false=>
   rw[h1]at hR;simp only[Bool.false_eq_true,if_false]at hR;have h2:Op.bytesLess (bs l).toList (bs l').toList=false:=by rw[gy,gy];exact h1
   cases h3:Op.bytesLess l' l with
   | true=>
     rw[h3]at hR;simp only[if_true]at hR;subst hR;have hne:¬l=l':=by rintro rfl;rw[zJ]at h3;cases h3
     have h4:((bs l).toList==(bs l').toList)=false:=by rw[gy,gy];simpa using hne
     have h5:¬(bs l).toList=(bs l').toList:=by rw[gy,gy];exact hne
     clear h1 h3 hne;go_enter Tryz.func231,Tryz.ntmps231;go_wp2;go_ret;exact⟨rfl,ae.1.out⟩
   |false=>rw[h3]at hR;simp only[Bool.false_eq_true,if_false]at hR;subst hR;obtain rfl:=zK h1 h3;clear h1 h3;go_enter Tryz.func231,Tryz.ntmps231;go_wp2;go_ret;exact⟨rfl,ae.1.out⟩
def arX (l:List UInt8)(s:Bool)(m:List UInt8)(e:Int)(l':List UInt8)(s':Bool)(m':List UInt8)(e':Int)(S:Dyadic)(B:Nat)(hS:dval (s,m,e)+dval (s',m',e')=S)(w:World)(hx:Fit B (s,m,e))(hy:Fit B (s',m',e'))(hB:B+2<=268435456)(hT:aB w):
 Cv 232 #[.agg #[ah l,ag s,ah m,af e],.agg #[ah l',ag s',ah m',af e']] w (.agg #[ah l,ag (au (dN S)),ah (nt (dN S).natAbs),af (dE S)]):=by
 obtain⟨ie,nK,HS,HT⟩:=bU hx hy hS hT;clear hx hy hS hT;obtain⟨W,bX,ae,ai⟩:=vS w 111 [ah l,ag s,ah m,af e] 111 [ah l',ag s',ah m',af e'] 111 [.string ⟨#[]⟩,ag false,.string ⟨#[]⟩,af 0];go_enter Tryz.func232,Tryz.ntmps232;go_wp2_with fail;refine cQ 9 ae (cM 10 0x12110e0c0b0907050301) ?_;refine bC ?_;refine qK 45 [ag s,ah m,af e,ag s',ah m',af e'] ae λW3 aG ae=>?_;refine bO ae (CE s m e s' m' e' S B HS.out W.heap.size _ 45 _ ie.out nK.out hB ae.1.out ((HT.out.below ae.2.1.out))) λw4 ae=>?_;refine bC ?_;have ai:=qC ae;refine qOp λK hK=>?_;go_simp;refine hK _ _ (λh=>absurd h zd) ?_
 refine bY (aN w4 (w.heap.size+1+1) 0 [ah l,ag (au (dN S)),ah (nt (dN S).natAbs),af (dE S)]) aU ?_;intro w5 hs0;have ae:=bG hs0 ae;simp only[bA,List.set]at ae;have ai:=qC ae;refine cP ae λai=>?_;have Hb:=ae.2.1;have r0:w5.cell? ⟨w.heap.size+1+1,0,none⟩=some (ah l):=ae.2.2.2.2.1.out.cell 0;have r1:w5.cell? ⟨w.heap.size+1+1,1,none⟩=some (ag (au (dN S))):=ae.2.2.2.2.1.out.cell 1;have r2:w5.cell? ⟨w.heap.size+1+1,2,none⟩=some (ah (nt (dN S).natAbs)):=ae.2.2.2.2.1.out.cell 2;have r3:w5.cell? ⟨w.heap.size+1+1,3,none⟩=some (af (dE S)):=ae.2.2.2.2.1.out.cell 3;go_wp2;exact bodyPost_ret (v:=.agg #[ah l,ag (au (dN S)),ah (nt (dN S).natAbs),af (dE S)]) (by simp[results,Tryz.results232,go_sem,r0,r1,r2,r3,ai]) rfl ⟨rfl,cm⟩
def ajw (l:List UInt8)(s:Bool)(m:List UInt8)(e:Int)(w:World)(hx:Ok (s,m,e)):
 Cv 254 #[.agg #[ah l,ag s,ah m,af e]] w (ag (!fN (l,s,m,e))):=by
 obtain⟨g,hg⟩:=az (bg (dval (s,m,e)));have hs:=λW=>lK s m e g hg W hx;have hz:(!fN (l,s,m,e))=decide (g=0):=by unfold fN;rw[hg];by_cases h:g=0<;>simp[h]
 rw[hz];have Hs:=aj hs;clear hs hz hg hx;obtain⟨W,bX,ae,ai⟩:=fy w 111 [ah l,ag s,ah m,af e];go_enter Tryz.func254,Tryz.ntmps254;go_wp2_with fail;refine aJ ae (Hs.out _) λw1 ae ai=>?_;go_wp2;refine bodyPost_ret (results_tmp rfl _ _ _) rfl ⟨?_,ae.1.out⟩;by_cases h:g=0<;>simp[h]
def aot (l:List UInt8)(s:Bool)(m:List UInt8)(e:Int)(V:Int)(bv:Nat)(w:World)(hv:w.cell? ⟨bv,0,none⟩=some (af V))(hl:l.length<=9223372036854775807):
 Cv 204 #[.agg #[ah l,ag s,ah m,af e],.pointer (some ⟨bv,0,none⟩)] w (ag (!bZ l V)):=by
 have hm:=λW=>AU l V W hl;obtain⟨t,ht⟩:=az (bZ l V);rw[ht]at hm⊢;obtain⟨Hm,Hv⟩:=aI hm hv;clear hm ht hv;obtain⟨W,bX,ae,ai⟩:=fy w 111 [ah l,ag s,ah m,af e];have hv2:=cell_later ae.1.out Hv.out;go_enter Tryz.func204,Tryz.ntmps204;go_wp2_with fail;refine aJ ae (Hm.out _) λw1 ae ai=>?_;clear hv2;go_wp2;refine bodyPost_ret (results_tmp rfl _ _ _) rfl ⟨rfl,ae.1.out⟩
end Go.Proofs.YtpfgffadgkkedaaGreatDoor
namespace Go.Proofs.YtpfgffadgkkedaaGreatDoor
def zw (V:Nat)(ts:List Trm):Prop:=Good ts/\(∀t∈ts,bZ t.1 V=true)/\ts.length<=4096/\V<=12
def JI {V:Nat}{ts:List Trm}(h:zw V ts):gP V ts=0:=by
 obtain⟨⟨h1,h2⟩,h3,h4,h5⟩:=h;unfold gP;rw[if_neg zo,if_neg zo,if_pos];rw[List.all_eq_true];intro k hk;have hk:k<ts.length:=by simpa using hk
 have e:ts.getD k default=ts[k]:=by simp[hk]
 have hm:=List.getElem_mem hk;unfold kO uT;rw[e,h3 _ hm,(uR _).2 (h2 _ hm).1];have e2:(canon (dval ts[k].2)==ts[k].2)=true:=by rw[beq_iff_eq];exact(h2 _ hm).2.symm
 rw[e2];by_cases h0:k=0
 . simp[h0]
 . have hk1:k-1<ts.length:=by omega
   have e3:ts.getD (k-1) default=ts[k-1]:=by simp[hk1]
   have:=List.pairwise_iff_getElem.1 h1 (k-1) k hk1 hk zo;rw[e3,gy,gy,this];simp
def Good.coef {l:List Trm}(h:Good l):∀t∈l,dval t.2=bN l t.1:=by
 induction l with
 |nil=>intro t ht;cases ht
 | cons x l ih=>
   intro t ht;rcases List.mem_cons.1 ht with rfl|ht
   . exact h.head.symm
   . have hne:¬x.1=t.1:=λe=>by have:=(List.pairwise_cons.1 h.1).1 t ht;rw[e,zJ]at this;cases this
     simp only[bN,if_neg hne,ih h.tail t ht];grind
def ajI {B:Nat}{l:List Trm}(h:∀x∈l,Sm B (dval x.2))(m:List UInt8):Sm (B+l.length) (bN l m):=by
 induction l with
 |nil=>exact Sm.zero _
 | cons x l ih=>
   have h1:=ih (λy hy=>h y (by simp[hy]));have h2:Sm B (if x.1=m then dval x.2 else 0):=by
    split
    . exact h x zm
    . exact Sm.zero _
   exact((h2.mono (show B<=B+l.length by omega)).add h1).mono zi
def ajA {B:Nat}{l:List Trm}(h:∀x∈l,Sm B (dval x.2)):∀t∈aS l,Sm (B+l.length) (dval t.2):=by intro t ht;rw[(ji l).coef t ht,oJ];exact ajI h _
def Vv (l:List Trm):∀x∈aS l,∃y∈l,y.1=x.1:=by intro x hx;unfold aS at hx;obtain⟨y,hy,rfl⟩:=List.mem_map.1 hx;exact arM l y (List.mem_filter.1 hy).1
def ajz {V:Nat}{l:List Trm}(hV:V<=12)(hm:∀t∈l,bZ t.1 V=true)(hl:l.length<=4096):zw V (aS l):=
 ⟨ji l,λt ht=>by obtain⟨y,hy,e⟩:=Vv l t ht;rw[<-e];exact hm y hy,Nat.le_trans (jH l) hl,hV⟩
def zN {a b:List Trm}(h:∀m,bN a m=bN b m):aS a=aS b:=Nz (ji a) (ji b) (λm=>by rw[oJ,oJ,h m])
def ajy (a b:List Trm):aS (aS a++aS b)=aS (a++b):=zN (λm=>by rw[wW,wW,oJ,oJ])
def cz (c:Dyadic)(l:List Trm):List Trm:=l.map λx=>(x.1,canon (dval x.2*c))
def VC (c:Dyadic)(l:List Trm)(m:List UInt8):bN (cz c l) m=bN l m*c:=by
 induction l with
 |nil=>simp[cz,bN]
 |cons x l ih=>simp only[cz,List.map_cons,bN]at ih⊢;rw[ih,bD];split<;>grind
def jS (n:Nat):List UInt8:=List.replicate n 0
def cj (n k:Nat):List UInt8:=(List.replicate n 0).set k 1
def RS (n:Nat):bZ (jS n) n=true:=by unfold bZ jS;rw[Bool.and_eq_true];refine⟨?_,by simp⟩;rw[List.all_eq_true];intro c hc;rw[(List.mem_replicate.1 hc).2];rfl
def JY (n k:Nat):bZ (cj n k) n=true:=by
 unfold bZ cj;rw[Bool.and_eq_true];refine⟨?_,by simp⟩;rw[List.all_eq_true];intro c hc;rcases List.mem_or_eq_of_mem_set hc with h|h
 . rw[(List.mem_replicate.1 h).2];rfl
 . rw[h];rfl
def eQ (n:Nat)(c:Dyadic)(l:Nat->Dyadic)(k:Nat):List Trm:=(jS n,canon c)::(List.range k).map λj=>(cj n j,canon (l j))
def cE (n:Nat)(c:Dyadic)(l:Nat->Dyadic)(k:Nat):List Trm:=aS (eQ n c l k)
def AQ (n:Nat)(c:Dyadic)(l:Nat->Dyadic)(k:Nat):(eQ n c l k).length=k+1:=by simp[eQ]
def aa2 (n:Nat)(c:Dyadic)(l:Nat->Dyadic)(k:Nat):∀t∈eQ n c l k,bZ t.1 n=true:=by
 intro t ht;unfold eQ at ht;rcases List.mem_cons.1 ht with rfl|ht
 . exact RS n
 . obtain⟨j,_,rfl⟩:=List.mem_map.1 ht;exact JY n j
def anX {B:Nat}(n:Nat)(c:Dyadic)(l:Nat->Dyadic)(k:Nat)(hc:Sm B c)(hl:∀j,j<k->Sm B (l j)):∀t∈eQ n c l k,Sm B (dval t.2):=by
 intro t ht;unfold eQ at ht;rcases List.mem_cons.1 ht with rfl|ht
 . show Sm B (dval (canon c));rw[bD];exact hc
 . obtain⟨j,hj,rfl⟩:=List.mem_map.1 ht;show Sm B (dval (canon (l j)));rw[bD];exact hl j (by simpa using hj)
def Qe (n:Nat)(c:Dyadic)(l:Nat->Dyadic)(k:Nat):eQ n c l (k+1)=eQ n c l k++[(cj n k,canon (l k))]:=by unfold eQ;rw[List.range_succ,List.map_append];rfl
def Gs (n:Nat)(c:Dyadic)(l:Nat->Dyadic)(k:Nat)(m:List UInt8):bN (eQ n c l (k+1)) m=bN (eQ n c l k) m+if cj n k=m then l k else 0:=by rw[Qe,wW];simp only[bN,bD];grind
def anY (n:Nat)(c:Dyadic)(l:Nat->Dyadic)(k:Nat):aS (cE n c l k++aS [(cj n k,canon (l k))])=cE n c l (k+1):=by unfold cE;rw[ajy,Qe]
def ajD (n:Nat)(c d:Dyadic)(l r:Nat->Dyadic)(u v:Dyadic)(k:Nat)(m:List UInt8):bN (eQ n (c*u+d*v) (λj=>l j*u+r j*v) k) m=bN (eQ n c l k) m*u+bN (eQ n d r k) m*v:=by
 induction k with
 |zero=>simp[eQ,bN,bD];split<;>grind
 |succ k ih=>rw[Gs,ih,Gs,Gs];split<;>grind
def anW {n:Nat}{c d:Dyadic}{l r:Nat->Dyadic}(k:Nat)(hc:c=d)(h:∀j,j<k->l j=r j):eQ n c l k=eQ n d r k:=by unfold eQ;rw[hc];congr 1;refine List.map_congr_left λj hj=>?_;rw[h j (by simpa using hj)]
def anZ (n:Nat)(c d:Dyadic)(l r:Nat->Dyadic)(k:Nat):aS (cE n c l k++aS (cz (-1) (cE n d r k)))=cE n (c-d) (λj=>l j-r j) k:=by unfold cE;refine zN (λm=>?_);rw[wW,oJ,oJ,VC,oJ];have h:=ajD n c d l r 1 (-1) k m;rw[anW (d:=c-d) (r:=λj=>l j-r j) k (by grind) (λj _=>by grind)]at h;rw[h];grind
end Go.Proofs.YtpfgffadgkkedaaGreatDoor
namespace Go.Proofs.YtpfgffadgkkedaaGreatDoor
open Go.RowKit
attribute [local go_sem ↓] Go.wp_at_zero Go.wp_at_succ
def idxFrom (p:Value->Bool):List Value->Nat->Int
 |[],_=>-1
 |v::l,k=>if p v then(k:Int)else idxFrom p l (k+1)
def PW (p:Value->Bool)(l:List Value)(k n:Nat)(h:n<l.length):idxFrom p (l.drop n) k=if p l[n]then(k:Int)else idxFrom p (l.drop (n+1)) (k+1):=by rw[List.drop_eq_getElem_cons h];rfl
def aaF (p:Value->Bool)(l:List Value)(k:Nat):decide (0<=idxFrom p l k)=l.any p:=by
 induction l generalizing k with
 |nil=>rfl
 | cons v l ih=>
   unfold idxFrom;rw[List.any_cons];by_cases h:p v=true
   . rw[if_pos h,h,Bool.true_or];simp
   . rw[if_neg h,ih];simp[h]
def anl (a:Option Addr)(n cap:Nat)(vals:List Value)(gf:Nat)(lb:Array Value)(p:Value->Bool)(w:World)(hn:vals.length=n)(hl:n<=1099511627776)(ha:At w a vals)
 (eg:∀args w,(callFunc gf args).run Tryz.prog w=.ok (.enter gf args) w)
 (hcl:∀v∈vals,∀W,Bw w W->Cl gf (#[v]++lb) W λe w'=>e=.returned (ag (p v))/\Bw W w'):
 Cv 244 #[.slice a n cap,.func (.func gf) #[] lb] w (af (idxFrom p vals 0)):=by
 obtain⟨Hn,Ha,eH,iD⟩:=bU hn ha hcl eg;clear hn ha hcl eg;have Hb:=hbz w;go_enter Tryz.func244,Tryz.ntmps244;go_wp2_with fail;go_loopw[5,8] (λ_ i wr=>∃k:Nat,k<=n/\i=af (k:Int)/\idxFrom p vals 0=idxFrom p (vals.drop k) k/\Bw w wr) (λ_ i _=>n-(intOf i).toNat);case atStart=>exact⟨0,Nat.zero_le _,rfl,rfl,Hb.out⟩
 case round=>
  clear Hb;obtain⟨k,hk,rfl,eZ,pb⟩:=hrel;obtain⟨iK,Hb⟩:=aI eZ pb;clear eZ pb;by_cases hlt:k<n
  . have bi:k<vals.length:=by rw[Hn.out];exact hlt
    obtain⟨b,o,hab,hcs⟩:=(Ha.out.below Hb.out).get (by intro h;rw[h]at bi;simp at bi);obtain⟨v,hv⟩:=az (vals[k]);have hc0:wr.cell? ⟨b,o+k,none⟩=some v:=by rw[hcs k bi,List.getElem?_eq_getElem bi,hv]
    have aQ:=yb n cap k (k:Int) hab hlt rfl;rw[Nat.mul_one]at aQ;have hcall:=eH.out v (by rw[<-hv];exact List.getElem_mem bi) wr Hb.out;have hstep:=PW p vals k k bi;rw[hv,<-iK.out]at hstep;obtain⟨fS,jc⟩:=aI hstep hcall;have jE:=iD.out;clear hcs hab hv hstep hcall;go_wp2_with fail;refine jc.out.mono ?_;rintro e w1 ⟨rfl,hb1⟩;replace Hb:=aj (aC Hb.out hb1);clear hb1 hc0 aQ jE;obtain⟨t,ht⟩:=az (p v);rw[ht]at fS⊢;clear ht;cases t with
    |true=>go_wp2;refine bodyPost_ret (results_tmp rfl _ _ _) rfl ⟨?_,Hb.out⟩;have h:=fS.out;rw[if_pos (by trivial)]at h;rw[h];rfl
    | false=>
      go_wp2;go_roundw;case rel=>exact⟨k+1,by omega,by go_num,by have h:=fS.out;rw[if_neg zd]at h;exact h,Hb.out⟩
      case measure=>exact bf
  . obtain rfl:k=n:=by omega
    go_wp2;refine bodyPost_ret (results_tmp rfl _ _ _) rfl ⟨?_,Hb.out⟩;have h:=iK.out;rw[List.drop_of_length_le (by rw[Hn.out];exact Nat.le_refl _)]at h;rw[h];rfl
def ajN (a:Option Addr)(n cap:Nat)(vals:List Value)(gf:Nat)(lb:Array Value)(p:Value->Bool)(w:World)(hn:vals.length=n)(hl:n<=1099511627776)(ha:At w a vals)
 (eg:∀args w,(callFunc gf args).run Tryz.prog w=.ok (.enter gf args) w)
 (hcl:∀v∈vals,∀W,Bw w W->Cl gf (#[v]++lb) W λe w'=>e=.returned (ag (p v))/\Bw W w'):
 Cv 198 #[.slice a n cap,.func (.func gf) #[] lb] w (ag (vals.any p)):=by
 have h1:=anl a n cap vals gf lb p w hn hl ha eg hcl;rw[<-aaF p vals 0];generalize idxFrom p vals 0=i at*;have H1:=aj h1;clear h1 hcl eg ha hn;have Hb:=hbz w;go_enter Tryz.func198,Tryz.ntmps198;go_wp2_with fail;refine aJ (Hb.an trivial) (H1.out) λw1 ae ai=>?_;have Hb:=ae.1;go_wp2;exact bodyPost_ret (v:=ag (decide (0<=i))) (by simp[results,Tryz.results198,go_sem,ai]) rfl ⟨rfl,cm⟩
def ank (a:Option Addr)(n cap:Nat)(vals:List Value)(gf:Nat)(lb:Array Value)(p:Value->Bool)(w:World)(hn:vals.length=n)(hl:n<=1099511627776)(ha:At w a vals)
 (eg:∀args w,(callFunc gf args).run Tryz.prog w=.ok (.enter gf args) w)
 (hcl:∀v∈vals,∀W,Bw w W->Cl gf (#[v]++lb) W λe w'=>e=.returned (ag (p v))/\Bw W w'):
 Cv 279 #[.slice a n cap,.func (.func gf) #[] lb] w (af (idxFrom p vals 0)):=by
 obtain⟨Hn,Ha,eH,iD⟩:=bU hn ha hcl eg;clear hn ha hcl eg;have Hb:=hbz w;go_enter Tryz.func279,Tryz.ntmps279;go_wp2_with fail;go_loopw[5,8] (λ_ i wr=>∃k:Nat,k<=n/\i=af (k:Int)/\idxFrom p vals 0=idxFrom p (vals.drop k) k/\Bw w wr) (λ_ i _=>n-(intOf i).toNat);case atStart=>exact⟨0,Nat.zero_le _,rfl,rfl,Hb.out⟩
 case round=>
  clear Hb;obtain⟨k,hk,rfl,eZ,pb⟩:=hrel;obtain⟨iK,Hb⟩:=aI eZ pb;clear eZ pb;by_cases hlt:k<n
  . have bi:k<vals.length:=by rw[Hn.out];exact hlt
    obtain⟨b,o,hab,hcs⟩:=(Ha.out.below Hb.out).get (by intro h;rw[h]at bi;simp at bi);obtain⟨v,hv⟩:=az (vals[k]);have hc0:wr.cell? ⟨b,o+k,none⟩=some v:=by rw[hcs k bi,List.getElem?_eq_getElem bi,hv]
    have aQ:=AE n cap k (k:Int) hab hlt rfl;rw[Nat.mul_one]at aQ;have hcall:=eH.out v (by rw[<-hv];exact List.getElem_mem bi) wr Hb.out;have hstep:=PW p vals k k bi;rw[hv,<-iK.out]at hstep;obtain⟨fS,jc⟩:=aI hstep hcall;have jE:=iD.out;clear hcs hab hv hstep hcall;go_wp2_with fail;refine jc.out.mono ?_;rintro e w1 ⟨rfl,hb1⟩;replace Hb:=aj (aC Hb.out hb1);clear hb1 hc0 aQ jE;obtain⟨t,ht⟩:=az (p v);rw[ht]at fS⊢;clear ht;cases t with
    |true=>go_wp2;refine bodyPost_ret (results_tmp rfl _ _ _) rfl ⟨?_,Hb.out⟩;have h:=fS.out;rw[if_pos (by trivial)]at h;rw[h];rfl
    | false=>
      go_wp2;go_roundw;case rel=>exact⟨k+1,by omega,by go_num,by have h:=fS.out;rw[if_neg zd]at h;exact h,Hb.out⟩
      case measure=>exact bf
  . obtain rfl:k=n:=by omega
    go_wp2;refine bodyPost_ret (results_tmp rfl _ _ _) rfl ⟨?_,Hb.out⟩;have h:=iK.out;rw[List.drop_of_length_le (by rw[Hn.out];exact Nat.le_refl _)]at h;rw[h];rfl
def ajM (a:Option Addr)(n cap:Nat)(vals:List Value)(gf:Nat)(lb:Array Value)(p:Value->Bool)(w:World)(hn:vals.length=n)(hl:n<=1099511627776)(ha:At w a vals)
 (eg:∀args w,(callFunc gf args).run Tryz.prog w=.ok (.enter gf args) w)
 (hcl:∀v∈vals,∀W,Bw w W->Cl gf (#[v]++lb) W λe w'=>e=.returned (ag (p v))/\Bw W w'):
 Cv 245 #[.slice a n cap,.func (.func gf) #[] lb] w (ag (vals.any p)):=by
 have h1:=ank a n cap vals gf lb p w hn hl ha eg hcl;rw[<-aaF p vals 0];generalize idxFrom p vals 0=i at*;have H1:=aj h1;clear h1 hcl eg ha hn;have Hb:=hbz w;go_enter Tryz.func245,Tryz.ntmps245;go_wp2_with fail;refine aJ (Hb.an trivial) (H1.out) λw1 ae ai=>?_;have Hb:=ae.1;go_wp2;exact bodyPost_ret (v:=ag (decide (0<=i))) (by simp[results,Tryz.results245,go_sem,ai]) rfl ⟨rfl,cm⟩
def anj (a:Option Addr)(n cap:Nat)(vals:List Value)(gf:Nat)(lb:Array Value)(p:Value->Bool)(w:World)(hn:vals.length=n)(hl:n<=1099511627776)(ha:At w a vals)
 (eg:∀args w,(callFunc gf args).run Tryz.prog w=.ok (.enter gf args) w)
 (hcl:∀v∈vals,∀W,Bw w W->Cl gf (#[v]++lb) W λe w'=>e=.returned (ag (p v))/\Bw W w'):
 Cv 247 #[.slice a n cap,.func (.func gf) #[] lb] w (af (idxFrom p vals 0)):=by
 obtain⟨Hn,Ha,eH,iD⟩:=bU hn ha hcl eg;clear hn ha hcl eg;have Hb:=hbz w;go_enter Tryz.func247,Tryz.ntmps247;go_wp2_with fail;go_loopw[5,8] (λ_ i wr=>∃k:Nat,k<=n/\i=af (k:Int)/\idxFrom p vals 0=idxFrom p (vals.drop k) k/\Bw w wr) (λ_ i _=>n-(intOf i).toNat);case atStart=>exact⟨0,Nat.zero_le _,rfl,rfl,Hb.out⟩
 case round=>
  clear Hb;obtain⟨k,hk,rfl,eZ,pb⟩:=hrel;obtain⟨iK,Hb⟩:=aI eZ pb;clear eZ pb;by_cases hlt:k<n
  . have bi:k<vals.length:=by rw[Hn.out];exact hlt
    obtain⟨b,o,hab,hcs⟩:=(Ha.out.below Hb.out).get (by intro h;rw[h]at bi;simp at bi);obtain⟨v,hv⟩:=az (vals[k]);have hc0:wr.cell? ⟨b,o+k,none⟩=some v:=by rw[hcs k bi,List.getElem?_eq_getElem bi,hv]
    have aQ:=AG n cap k (k:Int) hab hlt rfl;rw[Nat.mul_one]at aQ;have hcall:=eH.out v (by rw[<-hv];exact List.getElem_mem bi) wr Hb.out;have hstep:=PW p vals k k bi;rw[hv,<-iK.out]at hstep;obtain⟨fS,jc⟩:=aI hstep hcall;have jE:=iD.out;clear hcs hab hv hstep hcall;go_wp2_with fail;refine jc.out.mono ?_;rintro e w1 ⟨rfl,hb1⟩;replace Hb:=aj (aC Hb.out hb1);clear hb1 hc0 aQ jE;obtain⟨t,ht⟩:=az (p v);rw[ht]at fS⊢;clear ht;cases t with
    |true=>go_wp2;refine bodyPost_ret (results_tmp rfl _ _ _) rfl ⟨?_,Hb.out⟩;have h:=fS.out;rw[if_pos (by trivial)]at h;rw[h];rfl
    | false=>
      go_wp2;go_roundw;case rel=>exact⟨k+1,by omega,by go_num,by have h:=fS.out;rw[if_neg zd]at h;exact h,Hb.out⟩
      case measure=>exact bf
  . obtain rfl:k=n:=by omega
    go_wp2;refine bodyPost_ret (results_tmp rfl _ _ _) rfl ⟨?_,Hb.out⟩;have h:=iK.out;rw[List.drop_of_length_le (by rw[Hn.out];exact Nat.le_refl _)]at h;rw[h];rfl
def Pt (w:World)(v:Value)(cX:List Raw):Prop:=∃a cap,v=.slice a cX.length cap/\At w a (cX.flatMap aY)
def Pt.below {w w':World}{v:Value}{cX:List Raw}(h:Pt w v cX)(hb:Bw w w'):Pt w' v cX:=
 let ⟨a,cap,hv,ha⟩:=h;⟨a,cap,hv,ha.below hb⟩
def cC (w:World)(a:Option Addr)(rows:List (List Raw)):Prop:=∃vals:List Value,vals.length=rows.length/\At w a vals/\∀i (h:i<rows.length) (h':i<vals.length),Pt w vals[i] rows[i]
def cC.below {w w':World}{a:Option Addr}{rows:List (List Raw)}(h:cC w a rows)(hb:Bw w w'):cC w' a rows:=
 let ⟨vals,hl,ha,hp⟩:=h;⟨vals,hl,ha.below hb,λi h1 h2=>(hp i h1 h2).below hb⟩
instance {w :World} {a:Option Addr} {rows:List (List Raw)}:QTr (cC w a rows) w (λW=>cC W a rows):=⟨λh _ k=>cC.below h k⟩
def cC.row {w:World}{a:Option Addr}{rows:List (List Raw)}(h:cC w a rows)(k:Nat)(hk:k<rows.length):
 ∃b o a' cap',a=some ⟨b,o,none⟩/\w.cell? ⟨b,o+k,none⟩=some (.slice a' rows[k].length cap')/\At w a' (rows[k].flatMap aY):=by
 obtain⟨vals,hl,ha,hp⟩:=h;have hk2:k<vals.length:=by rw[hl];exact hk
 obtain⟨b,o,hab,hcs⟩:=ha.get (by intro h0;rw[h0]at hk2;simp at hk2);obtain⟨a',cap',hv,hat⟩:=hp k hk hk2;exact⟨b,o,a',cap',hab,by rw[hcs k hk2,List.getElem?_eq_getElem hk2,hv],hat⟩
def vL :Value->Int
 | .slice _ n _=>n
 |_=>0
def yq (N:Int)(v:Value):Bool:=decide (vL v≠N)
def UX {w:World}{vals:List Value}{rows:List (List Raw)}(N:Int)(hl:vals.length=rows.length)(hp:∀i (h:i<rows.length) (h':i<vals.length),Pt w vals[i] rows[i]):
 vals.any (yq N)=rows.any λr=>decide ((r.length:Int)≠N):=by
 induction vals generalizing rows with
 |nil=>have:rows=[]:=List.length_eq_zero_iff.1 hl.symm;subst this;rfl
 | cons v vs ih=>
   match rows,hl with
   |r::rs,hl=>have h0:=hp 0 zm zm;obtain⟨a,cap,hv,_⟩:=h0;have hv':v=.slice a r.length cap:=hv;have:=ih (rows:=rs) (by simpa using hl) (λi h h'=>hp (i+1) zi zi);rw[List.any_cons,List.any_cons,this];subst hv';rfl
def asI (bn:Nat)(N:Int)(a:Option Addr)(n cap:Nat)(w:World)(hN:w.cell? ⟨bn,0,none⟩=some (af N)):
 Cv 197 #[.slice a n cap,.pointer (some ⟨bn,0,none⟩)] w (ag (yq N (.slice a n cap))):=by
 have Hb:=hbz w;go_enter Tryz.func197,Tryz.ntmps197;go_wp2;refine bodyPost_ret (results_tmp rfl _ _ _) rfl ⟨?_,Hb.out⟩;simp only[yq,vL];by_cases h:(n:Int)=N<;>simp[h]
def kI (rows:List (List Raw)):Int:=
 let n:Int:=rows.length-1
 if n<1\/8<n\/(rows.any λr=>decide ((r.length:Int)≠n))then 0 else n
def adg (a:Option Addr)(L cap:Nat)(rows:List (List Raw))(w:World)(hL:rows.length=L)(hl:L<=1099511627776)(ha:cC w a rows):
 Cv 115 #[.slice a L cap] w (af (kI rows)):=by
 obtain⟨vals,hvl,hat,hp⟩:=ha;have xp:=λN=>UX (w:=w) N hvl hp;have hcl:∀(bn:Nat) (W:World),W.cell? ⟨bn,0,none⟩=some (af ((L:Int)-1))->At W a vals->Cv 198 #[.slice a L cap,.func (.func 197) #[] #[.pointer (some ⟨bn,0,none⟩)]] W (ag (rows.any λr=>decide ((r.length:Int)≠(L:Int)-1))):=by intro bn W hc hA;rw[<-xp];refine ajN a L cap vals 197 #[.pointer (some ⟨bn,0,none⟩)] (yq ((L:Int)-1)) W (by rw[hvl,hL]) hl hA (enters_of Tryz.func197 zk rfl) (λv hv W' hb=>?_);obtain⟨i,hi,rfl⟩:=List.mem_iff_getElem.1 hv;obtain⟨a',cap',e,_⟩:=hp i (by rw[<-hvl];exact hi) hi;rw[e];exact asI bn _ a' _ cap' W' (cell_later hb hc)
 have hv:kI rows=if(L:Int)-1<1\/8<(L:Int)-1\/(rows.any λr=>decide ((r.length:Int)≠(L:Int)-1))=true then 0 else(L:Int)-1:=by unfold kI;rw[hL]
 obtain⟨T,hT⟩:=az (rows.any λr=>decide ((r.length:Int)≠(L:Int)-1));rw[hT]at hv;simp only[hT]at hcl;obtain⟨eH,eG,Hv⟩:=bM hcl hat hv;obtain⟨V,hV⟩:=az (kI rows);rw[hV]at Hv⊢;clear hcl hat hv xp hvl hp hL hT hV;obtain⟨W,bX,ae,ai⟩:=fy w 3 [af ((L:Int)-1)];go_enter Tryz.func115,Tryz.ntmps115;by_cases h1:(L:Int)-1<1
 . have hv:=Hv.out;rw[if_pos (.inl h1)]at hv;subst hv;have Hb:=ae.1;go_wp2;exact bodyPost_ret (v:=af 0) (by simp[results,Tryz.results115,go_sem,ai]) rfl ⟨rfl,cm⟩
 . by_cases h2:8<(L:Int)-1
   . have hv:=Hv.out;rw[if_pos (.inr (.inl h2))]at hv;subst hv;have Hb:=ae.1;go_wp2;exact bodyPost_ret (v:=af 0) (by simp[results,Tryz.results115,go_sem,ai]) rfl ⟨rfl,cm⟩
   . have n0:W.cell? ⟨w.heap.size,0,none⟩=some (af ((L:Int)-1)):=ae.2.1.out.cell 0;have jc:=aj (eH.out w.heap.size W n0 (eG.out.below ae.1.out));go_wp2_with fail;refine aJ ae (jc.out) λw1 ae ai=>?_;cases T with
     |true=>have hv:=Hv.out;rw[if_pos (.inr (.inr rfl))]at hv;subst hv;have Hb:=ae.1;go_wp2;exact bodyPost_ret (v:=af 0) (by simp[results,Tryz.results115,go_sem,ai]) rfl ⟨rfl,cm⟩
     |false=>have hv:=Hv.out;rw[if_neg (by rintro(h|h|h);omega;omega;cases h)]at hv;subst hv;have Hb:=ae.1;go_wp2;exact bodyPost_ret (v:=af ((L:Int)-1)) (by simp[results,Tryz.results115,go_sem,ai]) rfl ⟨rfl,cm⟩
def aow (bn:Nat)(a0:Option Addr)(N c0:Nat)(a:Option Addr)(n cap:Nat)(w:World)(hN:w.cell? ⟨bn,0,none⟩=some (.slice a0 N c0)):
 Cv 246 #[.slice a n cap,.pointer (some ⟨bn,0,none⟩)] w (ag (yq (N:Int) (.slice a n cap))):=by
 have Hb:=hbz w;go_enter Tryz.func246,Tryz.ntmps246;go_wp2;refine bodyPost_ret (results_tmp rfl _ _ _) rfl ⟨?_,Hb.out⟩;simp only[yq,vL];by_cases h:(n:Int)=(N:Int)<;>simp[h]
def tX (rows:List (List Raw)):Int:=if 8<rows.length\/(rows.any λr=>decide ((r.length:Int)≠(rows.length:Int)))then 1 else 0
def Qo (a:Option Addr)(L cap:Nat)(rows:List (List Raw))(w:World)(hL:rows.length=L)(hl:L<=1099511627776)(ha:cC w a rows):
 Cv 199 #[.slice a L cap] w (af (tX rows)):=by
 obtain⟨vals,hvl,hat,hp⟩:=ha;have xp:=λN=>UX (w:=w) N hvl hp;have hcl:∀(bn:Nat) (W:World),W.cell? ⟨bn,0,none⟩=some (.slice a L cap)->At W a vals->Cv 245 #[.slice a L cap,.func (.func 246) #[] #[.pointer (some ⟨bn,0,none⟩)]] W (ag (rows.any λr=>decide ((r.length:Int)≠(L:Int)))):=by intro bn W hc hA;rw[<-xp];refine ajM a L cap vals 246 #[.pointer (some ⟨bn,0,none⟩)] (yq (L:Int)) W (by rw[hvl,hL]) hl hA (enters_of Tryz.func246 zk rfl) (λv hv W' hb=>?_);obtain⟨i,hi,rfl⟩:=List.mem_iff_getElem.1 hv;obtain⟨a',cap',e,_⟩:=hp i (by rw[<-hvl];exact hi) hi;rw[e];exact aow bn a L cap a' _ cap' W' (cell_later hb hc)
 have hv:tX rows=if 8<L\/(rows.any λr=>decide ((r.length:Int)≠(L:Int)))=true then 1 else 0:=by unfold tX;rw[hL]
 obtain⟨T,hT⟩:=az (rows.any λr=>decide ((r.length:Int)≠(L:Int)));rw[hT]at hv;simp only[hT]at hcl;obtain⟨eH,eG,Hv⟩:=bM hcl hat hv;obtain⟨V,hV⟩:=az (tX rows);rw[hV]at Hv⊢;clear hcl hat hv xp hvl hp hL hT hV;obtain⟨W,bX,ae,ai⟩:=fy w 153 [.slice a L cap];go_enter Tryz.func199,Tryz.ntmps199;by_cases h1:8<L
 . have hv:=Hv.out;rw[if_pos (.inl h1)]at hv;subst hv;have h2:(8:Int)<(L:Int):=by omega
   have Hb:=ae.1;go_wp2;exact bodyPost_ret (v:=af 1) (by simp[results,Tryz.results199,go_sem,ai]) rfl ⟨rfl,cm⟩
 . have h2:¬(8:Int)<(L:Int):=by omega
   have n0:W.cell? ⟨w.heap.size,0,none⟩=some (.slice a L cap):=ae.2.1.out.cell 0;have jc:=aj (eH.out w.heap.size W n0 (eG.out.below ae.1.out));go_wp2_with fail;refine aJ ae (jc.out) λw1 ae ai=>?_;cases T with
   |true=>have hv:=Hv.out;rw[if_pos (.inr rfl)]at hv;subst hv;have Hb:=ae.1;go_wp2;exact bodyPost_ret (v:=af 1) (by simp[results,Tryz.results199,go_sem,ai]) rfl ⟨rfl,cm⟩
   |false=>have hv:=Hv.out;rw[if_neg (by rintro(h|h);omega;cases h)]at hv;subst hv;have Hb:=ae.1;go_wp2;exact bodyPost_ret (v:=af 0) (by simp[results,Tryz.results199,go_sem,ai]) rfl ⟨rfl,cm⟩
def RF {rows:List (List Raw)}{n:Int}(h:kI rows=n)(h0:n≠0):1<=n/\n<=8/\(rows.length:Int)=n+1/\∀r∈rows,(r.length:Int)=n:=by
 unfold kI at h;dsimp only at h;split at h
 . exact absurd h.symm h0
 . rename_i hc
   simp only[not_or,Bool.not_eq_true,List.any_eq_false,decide_eq_true_eq,Decidable.not_not]at hc;obtain⟨h1,h2,h3⟩:=hc;refine⟨by omega,by omega,by omega,λr hr=>?_⟩;have:=h3 r hr;omega
def adf {rows:List (List Raw)}{n:Nat}(h1:rows.length=n+1)(h2:∀r∈rows,r.length=n)(h3:1<=n)(h8:n<=8):kI rows=n:=by
 unfold kI;dsimp only;rw[if_neg]
 . omega
 . rintro(h|h|h)
   . omega
   . omega
   . rw[List.any_eq_true]at h;obtain⟨r,hr,h⟩:=h;have:=h2 r hr;simp[h1,this]at h
def At.drew {w:World}{a:Option Addr}{cs:List Value}(h:At w a cs):At w.drew a cs:=h
def At.alloc {w:World}{a:Option Addr}{cs:List Value}(h:At w a cs)(o:Obj):At (w.alloc o) a cs:=h.below zl
def GR (r:List Raw):List Raw:=r.map λx=>canon (dval x)
def aln (r:List Raw):(GR r).length=r.length:=by simp[GR]
def alm (r:List Raw):(GR r).flatMap aY=dC (r.map dval):=by rw[zP,List.map_map];rfl
def Own2 (e:TypeId)(w:World)(base:Nat)(R:List (List Dyadic))(k:Nat)(v:Value):Prop:=
 ∃vals:List Value,vals.length=k/\w.ownsRow base e 1 v k vals/\∀i (h:i<vals.length),∃a c,vals[i]=.slice a (R.getD i []).length c/\At w a (dC (R.getD i []))/\∀b o,a=some ⟨b,o,none⟩->some b≠v.ownBlock/\b<w.heap.size
def Own2.nil (e:TypeId)(w:World)(base:Nat)(R:List (List Dyadic)):Own2 e w base R 0 (.slice none 0 0):=
 ⟨[],rfl,World.ownsRow_nil _ _ _ _,λ_ h=>absurd h (Nat.not_lt_zero _)⟩
def Own2.below {e:TypeId}{w w':World}{base k:Nat}{R:List (List Dyadic)}{v:Value}(h:Own2 e w base R k v)(hb:Bw w w'):Own2 e w' base R k v:=by obtain⟨vals,hl,ho,hi⟩:=h;refine⟨vals,hl,ownsRow_below ho hb,λi h=>?_⟩;obtain⟨a,c,h1,h2,h3⟩:=hi i h;exact⟨a,c,h1,h2.below hb,λb o e=>⟨(h3 b o e).1,Nat.lt_of_lt_of_le (h3 b o e).2 hb.size⟩⟩
def Own2.push {e:TypeId}{w w':World}{base k:Nat}{R:List (List Dyadic)}{v v':Value}{vals:List Value}(hl:vals.length=k)(hi:∀i (h:i<vals.length),∃a c,vals[i]=.slice a (R.getD i []).length c/\At w a (dC (R.getD i []))/\∀b o,a=some ⟨b,o,none⟩->some b≠v.ownBlock/\b<w.heap.size)
 {a:Option Addr} {c:Nat} (ha:At w a (dC (R.getD k []))) (hab:∀b o,a=some ⟨b,o,none⟩->some b≠v.ownBlock/\b<w.heap.size)
 (ho:w'.ownsRow base e 1 v' (k+1) (vals++[.slice a (R.getD k []).length c])) (hg:w.grownBy w' v.ownBlock) (fV:v'.ownBlock=v.ownBlock\/v'.ownBlock=some w.heap.size):Own2 e w' base R (k+1) v':=by
 have hne:∀b,some b≠v.ownBlock->b<w.heap.size->some b≠v'.ownBlock:=by
  intro b h1 h2;rcases fV with h|h
  . rw[h];exact h1
  . rw[h];intro h3;simp at h3;omega
 refine⟨_,by simp[hl],ho,λi h=>?_⟩;by_cases hk:i<vals.length
 . obtain⟨a1,c1,h1,h2,h3⟩:=hi i hk;refine⟨a1,c1,by rw[List.getElem_append_left hk];exact h1,h2.grown hg (λb o e=>(h3 b o e).1),λb o e=>⟨hne b (h3 b o e).1 (h3 b o e).2,Nat.lt_of_lt_of_le (h3 b o e).2 hg.size⟩⟩
 . have hik:i=k:=by simp at h;omega
   subst hik;refine⟨a,c,?_,ha.grown hg (λb o e=>(hab b o e).1),λb o e=>⟨hne b (hab b o e).1 (hab b o e).2,Nat.lt_of_lt_of_le (hab b o e).2 hg.size⟩⟩;rw[List.getElem_append_right zo];simp[hl]
def JH {W:World}{base:Nat}{e:TypeId}{size:Nat}{a:Option Addr}{n c:Nat}{xs:List Value}(h:W.ownsRow base e size (.slice a n c) n xs):n<=c:=by
 rcases h.2 with⟨h1,h2⟩ |⟨g,cap,cur,h1,_,_,h2,_⟩
 . omega
 . simp at h1;omega
def Own2.tbl {e:TypeId}{w:World}{base k:Nat}{R:List (List Raw)}{v:Value}(h:Own2 e w base (R.map λr=>r.map dval) k v)(hk:R.length=k):∃a c,v=.slice a k c/\k<=c/\cC w a (R.map GR):=by
 obtain⟨vals,hl,ho,hi⟩:=h;obtain⟨a,c,hv,hat,_⟩:=cO ho;subst hv;refine⟨a,c,rfl,JH ho,vals,by simp[hl,hk],hat,λi h1 h2=>?_⟩;obtain⟨a1,c1,e1,e2,_⟩:=hi i h2;have hi1:i<R.length:=by simpa using h1
 have eg:(R.map λr=>r.map dval).getD i []=R[i].map dval:=by simp[hi1]
 rw[eg]at e1 e2;refine⟨a1,c1,?_,?_⟩
 . rw[e1];simp[aln]
 . rw[List.getElem_map,alm];exact e2
def Tryz.awU :(Tryz.prog.info? 29).map (λi=>(i.zero,i.size,i.bytes))=some (some (.slice none 0 0),1,24):=by kernel_rfl
def jk (o p:List Raw):List Dyadic:=List.zipWith (λx y=>dval x-dval y) p o
def GG {o p:List Raw}(h:p.length=o.length):(jk o p).length=p.length:=by simp[jk,h]
def akj (o p:List Raw)(k:Nat)(h:k<p.length)(h':k<o.length):(jk o p).take (k+1)=(jk o p).take k++[dval p[k]-dval o[k]]:=by unfold jk;rw[List.take_succ_eq_append_getElem zi];simp
def Own2.aw3 {e:TypeId}{w:World}{base k:Nat}{R:List (List Dyadic)}{v:Value}(h:Own2 e w base R k v)(hk:R.length=k):∃a c,v=.slice a k c/\k<=c/\cC w a (R.map λr=>r.map canon):=by
 obtain⟨vals,hl,ho,hi⟩:=h;obtain⟨a,c,hv,hat,_⟩:=cO ho;subst hv;refine⟨a,c,rfl,JH ho,vals,by simp[hl,hk],hat,λi h1 h2=>?_⟩;obtain⟨a1,c1,e1,e2,_⟩:=hi i h2;have hi1:i<R.length:=by simpa using h1
 have eg:R.getD i []=R[i]:=by simp[hi1]
 rw[eg]at e1 e2;refine⟨a1,c1,?_,?_⟩
 . rw[e1];simp
 . rw[List.getElem_map,<-zP];exact e2
def acd (b o cap m n:Nat)(rows:List (List Raw))(B:Nat)(w:World)(hL:rows.length=m+1)(hm:m<=8)(hcap:m+1<=cap)(lS:1<=m)(hn:1<=n)(OU:n<=8)(hrow:∀r∈rows,r.length=n)(ha:cC w (some ⟨b,o,none⟩) rows)
 (hfit:∀r∈rows,∀c∈r,Fit B c) (hB:B<=10000000) (hT:aB w):
 Cl 117 #[.slice (some ⟨b,o,none⟩) (m+1) cap] w λe w'=>∃a' c',e=.returned (.slice a' m c')/\m<=c'/\
  cC w' a' (((rows.drop 1).map λp=>jk (rows.getD 0 []) p).map λr=>r.map canon)/\Bw w w':=by
 obtain⟨i0,hi,hz0,hz1,hz2⟩:=info_parts Tryz.awK;obtain⟨j0,hj,hy0,hy1,hy2⟩:=info_parts Tryz.awU;obtain⟨S,hS⟩:=az ((rows.drop 1).map λp=>jk (rows.getD 0 []) p);have Xo:S.length=m:=by rw[<-hS];simp[hL]
 have CZ:∀k (h0:0<rows.length) (h1:k+1<rows.length),S.getD k []=jk rows[0] rows[k+1]:=by
  intro k h0 h1;subst hS;have e0:rows.getD 0 []=rows[0]:=by simp[h0]
  rw[e0];have h2:k<(rows.drop 1).length:=by simp;omega
  simp[h1]
 rw[hS];have hcell:=λ(W:World) (h:cC W (some ⟨b,o,none⟩) rows) (k:Nat) (hk:k<rows.length)=>h.row k hk;obtain⟨Hi,cp,bR,bV,Hj,mE,mF,mG,HSL,Kk,KM,HT⟩:=gN hi hz0 hz1 hz2 hj hy0 hy1 hy2 Xo CZ hcell hT;obtain⟨Ha,sJ,sF,HL⟩:=bU ha hrow hfit hL;clear hi hz0 hz1 hz2 hj hy0 hy1 hy2 hS Xo CZ hcell ha hT hL hrow hfit;have e1:m+1-1=m:=by omega
 have e2:¬cap=1:=by omega
 go_enter Tryz.func117,Tryz.ntmps117;have Hb:=hbz w;go_wp2_with fail;obtain⟨r0,xR⟩:=az (rows[0]'(by rw[HL.out];omega));obtain⟨_,_,a0,c0,tu,hc0,qh⟩:=KM.out w Ha.out 0 (by rw[HL.out];omega);obtain⟨rfl,rfl⟩:b=_/\o=_:=by simp at tu;exact tu
 have hn0:r0.length=n:=by rw[<-xR];exact sJ.out _ (List.getElem_mem _)
 have jp:∀x∈r0,Fit B x:=by rw[<-xR];exact sF.out _ (List.getElem_mem _)
 have pY:∀k (h1:k+1<rows.length),S.getD k []=jk r0 rows[k+1]:=λk h1=>by rw[Kk.out k zo h1,xR]
 rw[xR]at hc0 qh;rw[hn0]at hc0;rw[Nat.add_zero]at hc0;have ix0:=yb (m+1) cap 0 0 (show some (⟨b,o,none⟩:Addr)=some ⟨b,o,none⟩from rfl) zo rfl;rw[Nat.mul_one,Nat.add_zero]at ix0;obtain⟨BF,yH,wG,BJ,HS0⟩:=eV hc0 qh hn0 jp pY;have AO:b<w.heap.size:=World.block_lt_of_cell? w _ hc0;clear hc0 qh hn0 jp pY xR tu Hb;go_loopw[3,11] (λs3 x wr=>∃(k:Nat) (v:Value),k<=m/\x=af (k:Int)/\v=s3/\Own2 29 wr w.heap.size S k v/\Bw w wr) (λ_ x _=>m-(intOf x).toNat);case atStart=>exact⟨0,_,Nat.zero_le _,rfl,rfl,Own2.nil _ _ _ _,Below.refl _ _⟩
 case round=>
  obtain⟨k,v,hk,rfl,rfl,pv,pb⟩:=hrel;by_cases hlt:k<m
  . have hk2:k+1<rows.length:=by rw[HL.out];omega
    obtain⟨p,kz⟩:=az (rows[k+1]);obtain⟨_,_,a1,c1,hab,hc1,hat⟩:=KM.out wr (Ha.out.below pb) (k+1) hk2;obtain⟨rfl,rfl⟩:b=_/\o=_:=by simp at hab;exact hab
    have oU:p.length=n:=by rw[<-kz];exact sJ.out _ (List.getElem_mem hk2)
    have fu:∀x∈p,Fit B x:=by rw[<-kz];exact sF.out _ (List.getElem_mem hk2)
    have tj:=HS0.out k hk2;rw[kz]at hc1 hat tj;rw[oU]at hc1;have tC:=yb m (cap-1) k (k:Int) (show some (⟨b,o+1,none⟩:Addr)=some ⟨b,o+1,none⟩from rfl) hlt rfl;rw[Nat.mul_one]at tC;have ame:wr.cell? ⟨b,o+1+k,none⟩=some (.slice a1 n c1):=by rw[show o+1+k=o+(k+1)by omega];exact hc1
    obtain⟨Z,hZ⟩:=az (jk r0 p);rw[hZ]at tj;obtain⟨eG,pJ,rc,yF,HZ,aO,je⟩:=jv hat oU fu tj hZ pb pv;clear hat oU fu tj hZ pb pv hab kz hc1;have gQ:=aO.out.size;obtain⟨wc,hwc⟩:∃wc,wc=wr:=⟨_,rfl⟩;subst hwc;go_wp2_with fail;go_loopw[6,17] (λs6 x wr=>∃(j:Nat) (v2:Value),j<=n/\x=af (j:Int)/\v2=s6/\wr.ownsRow wc.heap.size 45 3 v2 j (dC (Z.take j))/\Bw wc wr) (λ_ x _=>n-(intOf x).toNat);case atStart=>exact⟨0,_,Nat.zero_le _,rfl,rfl,World.ownsRow_nil _ _ _ _,Below.refl _ _⟩
    case round=>
     clear ame;obtain⟨j,v2,hj,rfl,rfl,ho,hb2⟩:=hrel;by_cases bi:j<n
     . have k1:j<p.length:=by rw[pJ.out];exact bi
       have k2:j<r0.length:=by rw[wG.out];exact bi
       obtain⟨sp,mp,ep,mf⟩:=pU (p[j]);obtain⟨sq,mq,eq,Jl⟩:=pU (r0[j]);have iU:=rc.out _ (List.getElem_mem k1);have OD:=BJ.out _ (List.getElem_mem k2);rw[mf]at iU;rw[Jl]at OD;obtain⟨X,hX⟩:=az (dval (sp,mp,ep)-dval (sq,mq,eq));have sK:Hid (dC (Z.take (j+1))=dC (Z.take j)++(bo X)):=by
        show _=_
        rw[<-HZ.out,akj _ _ _ k1 k2,Gv,mf,Jl,hX];rfl
       have dU:=aC aO.out hb2;obtain⟨b1,o1,oL,p0,p1,p2⟩:=(eG.out.below hb2).num j k1 mf;obtain⟨b2,o2,ku,q0,q1,q2⟩:=(yH.out.below dU).num j k2 Jl;have YR:=vK n c1 j (j:Int) oL bi rfl;have au1:=vK n c0 j (j:Int) ku bi rfl;have oY:b1<wc.heap.size:=(by subst oL;exact eG.out.lt (by intro h0;have:=congrArg List.length h0;rw[jJ aY 3 (λ_=>rfl)]at this;simp at this;omega));have mg:b2<wc.heap.size:=Nat.lt_of_lt_of_le (by subst ku;exact yH.out.lt (by intro h0;have:=congrArg List.length h0;rw[jJ aY 3 (λ_=>rfl)]at this;simp at this;omega)) gQ;have lbc:b<wc.heap.size:=Nat.lt_of_lt_of_le AO gQ;have Hu:Hid (aR wr b o [.slice a0 n c0]):=λi hi=>by
        obtain rfl:i=0:=by simp at hi;omega
        exact cell_later dU BF.out
       have Hp:Hid (aR wr b1 (o1+j*3) [ag sp,ah mp,af ep]):=jA p0 p1 p2;have Hq:Hid (aR wr b2 (o2+j*3) [ag sq,ah mq,af eq]):=jA q0 q1 q2;obtain⟨wE,Hfq,HX,Ho,BC,nI⟩:=ia iU OD hX ho hb2 (HT.out.below dU);have JU:=hb2.size;clear ho hb2 iU OD hX mf Jl oL ku p0 p1 p2 q0 q1 q2 dU;have Hb:=hbz wr;go_wp2_with fail;obtain⟨ae,ai⟩:=qZ (Hu.an<|Hp.an<|Hq.an trivial);obtain⟨Hu,Hp,Hq,_⟩:=ae;have u0:=Hu.out.w1;obtain⟨p0,p1,p2⟩:=Hp.out.w3;obtain⟨q0,q1,q2⟩:=Hq.out.w3;refine eW (λw'=>aK w' b o (.slice a0 n c0)/\aK w' b1 (o1+j*3) (ag sp)/\aK w' b1 (o1+j*3+1) (ah mp)/\aK w' b1 (o1+j*3+2) (af ep)/\aK w' b2 (o2+j*3) (ag sq)/\aK w' b2 (o2+j*3+1) (ah mq)/\aK w' b2 (o2+j*3+2) (af eq)) (λi=>Nat.blt i 100000) [(0,true),(1,true),(2,true),(3,true),(4,true),(5,true),(6,true),(7,true),(8,true),(9,true),(10,true),(11,false),(12,false),(13,false),(14,true)] zk zk rfl zk zc ⟨u0,p0,p1,p2,q0,q1,q2⟩ ?_;iterate 11 (refine pT rfl rfl ?_ (by intro w' ⟨q0,q1,q2,q3,q4,q5,q6⟩;go_simp;try with_reducible rfl))
       refine aP rfl rfl (λK hK=>?_);go_simp;with_reducible refine(Gz sp mp ep sq mq eq X B HX.out _ wE.out Hfq.out zo (by first|exact nI.out|exact aB.drew nI.out|exact aB.alloc nI.out _|exact aB.drew (aB.alloc nI.out _) |exact aB.alloc (aB.drew nI.out) _)).mono ?_
       rintro e w6 ⟨rfl,hq⟩;have ak:Bw wr w6:=by first|exact hq|exact cJ hq
       replace Hu:=kW Hu ak;replace Hp:=kW Hp ak;replace Hq:=kW Hq ak;have u0:=Hu.out.w1;obtain⟨p0,p1,p2⟩:=Hp.out.w3;obtain⟨q0,q1,q2⟩:=Hq.out.w3;replace Hb:=aZ Hb ak;refine hK _ _ (λ_=>⟨u0,p0,p1,p2,q0,q1,q2⟩) ?_
       refine aP rfl rfl (λK hK=>?_);go_simp;refine hK _ _ (λ_=>⟨aV u0,aV p0,aV p1,aV p2,aV q0,aV q1,aV q2⟩) ?_
       refine bY (λw7=>ar w7 (w6.heap.size) 45 (bo X)/\Bw w6 w7) (by first|exact iA|exact iB) ?_;rintro w7 ⟨qc,ak⟩;replace Hu:=kW Hu ak;replace Hp:=kW Hp ak;replace Hq:=kW Hq ak;have Hc:=aj qc;clear qc;have u0:=Hu.out.w1;obtain⟨p0,p1,p2⟩:=Hp.out.w3;obtain⟨q0,q1,q2⟩:=Hq.out.w3;obtain⟨c0,c1,c2⟩:=Hc.out.c3;replace Hb:=aZ Hb ak;refine aP rfl rfl (λK hK=>?_);have cu:=ownsRow_below Ho.out Hb.out;have jr:=Hb.out.size;refine wp_append_own _ _ _ 29 rfl wc.heap.size 45 i0 _ 3 32 Tryz.underlying29 Hi.out cp.out bR.out bV.out rfl zd v2 j (dC (Z.take j)) rfl cu ⟨w6.heap.size,0,none⟩ 1 1 (bo X) rfl rfl (fJ Hc.out) zy zx zo zo ?_;intro v' w8 eO bF _;obtain⟨g',cq,rfl⟩:=ownsRow_succ eO;have nb:∀b,b<wc.heap.size->some b≠v2.ownBlock:=λb hb e=>by have:=cZ cu b e.symm;omega
       refine hK _ _ (λ_=>⟨cK bF u0 (nb _ lbc),cK bF p0 (nb _ oY),cK bF p1 (nb _ oY),cK bF p2 (nb _ oY),cK bF q0 (nb _ mg),cK bF q1 (nb _ mg),cK bF q2 (nb _ mg)⟩) ?_
       refine pT rfl rfl ?_
       simp only[bI];go_wp2;go_roundw;case rel=>
        refine⟨j+1,_,by omega,by go_num,rfl,?_,?_⟩
        . rw[sK.out];exact eO
        . exact(aC BC.out Hb.out).grown bF zo (λj e=>cZ cu j e)
       case measure=>exact bf
     . obtain rfl:j=n:=by omega
       have uX:Z.take j=Z:=List.take_of_length_le (by rw[<-HZ.out,GG (by rw[pJ.out,wG.out]),pJ.out];exact Nat.le_refl _);rw[uX]at ho;obtain⟨a2,cap2,rfl,lN,ku⟩:=cO ho;have iu:=ho.lt;obtain⟨vals,hvl,hov,oW⟩:=je.out.below hb2;have Hb:=hbz wr;obtain⟨_,_,vA,_⟩:=je.out;have hvs:=vA.lt;have hin:∀b o,a2=some ⟨b,o,none⟩->some b≠v.ownBlock/\b<wr.heap.size:=by intro b o e;subst e;have h1:=iu b rfl;refine⟨λh2=>?_,h1.2⟩;have h3:=hvs b h2.symm;omega
       obtain⟨mB,wy,sL,wP,cN,cn⟩:=ia hin lN hvl oW hov hb2;have sz2:=hb2.size;have yG:Hid (Z.length=j):=by show _=_;rw[<-HZ.out,GG (by rw[pJ.out,wG.out]),pJ.out]
       clear hin lN hvl oW hov vA hvs hb2 ku iu uX ho bi hj;obtain⟨W6,rL,aG,ae,ai⟩:=cg wr (Hb.an trivial) 29 [.slice a2 j cap2];have cu:=ownsRow_below cN.out ae.2.1.out;have jr:=ae.2.1.out.size;have hnews:∀i u,([.slice a2 j cap2]:List Value)[i]?=some u->W6.cell? ((⟨wr.heap.size,0,none⟩:Addr).add i)=some u:=fJ ae.1.out;skip
       go_wp2_with (at_builtin;refine wpList_append_own_at _ rfl _ _ 153 rfl w.heap.size 29 j0 _ 1 24 Tryz.underlying153 Hj.out mE.out mF.out mG.out rfl zd v k vals rfl cu ⟨wr.heap.size,0,none⟩ 1 1 [.slice a2 j cap2] rfl rfl hnews zy zx zo zo ?_;intro v' w7 dt dM _ fV;obtain⟨g',rA,rfl⟩:=ownsRow_succ dt);go_roundw;case rel=>
        refine⟨k+1,_,by omega,by go_num,rfl,?_,?_⟩
        . refine Own2.push (a:=a2) (c:=cap2) sL.out (w:=W6) ?_ ?_ ?_ ?_ dM fV
          . intro i h;obtain⟨a,c,h1,h2,h3⟩:=wP.out i h;exact⟨a,c,h1,h2.below ae.2.1.out,λb o e=>⟨(h3 b o e).1,Nat.lt_of_lt_of_le (h3 b o e).2 jr⟩⟩
          . rw[yF.out];exact wy.out.below ae.2.1.out
          . exact λb o e=>⟨(mB.out b o e).1,Nat.lt_of_lt_of_le (mB.out b o e).2 jr⟩
          . rw[yF.out,yG.out];exact dt
        . exact(aC (aC aO.out cn.out) ae.2.1.out).grown dM zo (λj e=>cZ cu j e)
       case measure=>exact bf
  . obtain rfl:k=m:=by omega
    obtain⟨a2,c2,rfl,hcl,qE⟩:=Own2.aw3 pv HSL.out;obtain⟨ze,aO⟩:=aI qE pb;clear pv pb qE;go_wp2;refine bodyPost_ret (results_tmp rfl _ _ _) rfl ⟨a2,c2,rfl,hcl,ze.out,aO.out⟩
def Tryz.aw7 :(Tryz.prog.info? 43).map (λi=>(i.zero,i.size,i.bytes))=some (some (.agg #[ag false,.string (bs [])]),2,24):=by kernel_rfl
def Tryz.axa :(Tryz.prog.info? 226).map (λi=>(i.zero,i.size,i.bytes))=some (some (.slice none 0 0),1,24):=by kernel_rfl
def iC (z:Int):List Value:=[ag (au z),ah (nt z.natAbs)]
def zC (zs:List Int):List Value:=zs.flatMap iC
def atn (a b:List Int):zC (a++b)=zC a++zC b:=by unfold zC;rw[List.flatMap_append]
def iF (w:World)(base n:Nat)(R:List (List Int))(k:Nat)(v:Value):Prop:=
 ∃vals:List Value,vals.length=k/\w.ownsRow base 226 1 v k vals/\(∀i (h:i<vals.length),w.ownsRow base 43 2 vals[i] n (zC (R.getD i [])))/\
  ∀i j (hi:i<vals.length) (hj:j<vals.length) g,vals[i].ownBlock=some g->vals[j].ownBlock=some g->i=j
def iF.nil (w:World)(base n:Nat)(R:List (List Int)):iF w base n R 0 (.slice none 0 0):=
 ⟨[],rfl,World.ownsRow_nil _ _ _ _,λ_ h=>absurd h (Nat.not_lt_zero _),λ_ _ h=>absurd h (Nat.not_lt_zero _)⟩
def iF.below {w w':World}{base n k:Nat}{R:List (List Int)}{v:Value}(h:iF w base n R k v)(hb:Bw w w'):iF w' base n R k v:=by obtain⟨vals,hl,ho,hi,hd⟩:=h;exact⟨vals,hl,ownsRow_below ho hb,λi h=>ownsRow_below (hi i h) hb,hd⟩
def EJ {W:World}{b1 b2 e1 e2 s1 s2 k1 k2:Nat}{v1 v2:Value}{x1 x2:List Value}(h1:W.ownsRow b1 e1 s1 v1 k1 x1)(h2:W.ownsRow b2 e2 s2 v2 k2 x2)(he:e1≠e2):v1.ownBlock=none\/v1.ownBlock≠v2.ownBlock:=by
 rcases h1.2 with⟨rfl,_⟩ |⟨g,cap,cur,rfl,_,hg,_⟩
 . exact .inl rfl
 . refine .inr λh=>?_;rcases h2.2 with⟨rfl,_⟩ |⟨g',cap',cur',rfl,_,hg',_⟩
   . simp[Value.ownBlock]at h
   . simp only[Value.ownBlock,Option.some.injEq]at h;subst h;rw[hg]at hg';simp at hg';exact he hg'.2
def pj {W:World}{base base':Nat}{e:TypeId}{size:Nat}{v:Value}{n:Nat}{xs:List Value}(h:W.ownsRow base e size v n xs)(hb:base'<=base):W.ownsRow base' e size v n xs:=by
 refine⟨h.1,?_⟩;rcases h.2 with h2|⟨g,cap,cur,h1,h2,h3⟩
 . exact .inl h2
 . exact .inr ⟨g,cap,cur,h1,Nat.le_trans hb h2,h3⟩
def iF.push {w w':World}{base n k:Nat}{R:List (List Int)}{v v' x:Value}{vals:List Value}(hl:vals.length=k)(hov:w.ownsRow base 226 1 v k vals)(hi:∀i (h:i<vals.length),w.ownsRow base 43 2 vals[i] n (zC (R.getD i [])))
 (hd:∀i j (hi:i<vals.length) (hj:j<vals.length) g,vals[i].ownBlock=some g->vals[j].ownBlock=some g->i=j)
 (hx:w.ownsRow base 43 2 x n (zC (R.getD k []))) (eY:∀g,x.ownBlock=some g->∀i (h:i<vals.length),vals[i].ownBlock≠some g)
 (ho:w'.ownsRow base 226 1 v' (k+1) (vals++[x])) (hg:w.grownBy w' v.ownBlock):iF w' base n R (k+1) v':=by
 refine⟨_,by simp[hl],ho,λi h=>?_,λi j h1 h2 g e1 e2=>?_⟩
 . by_cases hk:i<vals.length
   . rw[List.getElem_append_left hk];exact(hi i hk).kept hg (EJ (hi i hk) hov zd)
   . have hik:i=k:=by simp at h;omega
     subst hik;rw[List.getElem_append_right zo];simp only[hl,Nat.sub_self,List.getElem_cons_zero];exact hx.kept hg (EJ hx hov zd)
 . by_cases k1:i<vals.length
   . rw[List.getElem_append_left k1]at e1;by_cases k2:j<vals.length
     . rw[List.getElem_append_left k2]at e2;exact hd i j k1 k2 g e1 e2
     . have hjk:j=k:=by simp at h2;omega
       subst hjk;rw[List.getElem_append_right zo]at e2;simp only[hl,Nat.sub_self,List.getElem_cons_zero]at e2;exact absurd e1 (eY g e2 i k1)
   . have hik:i=k:=by simp at h1;omega
     subst hik;rw[List.getElem_append_right zo]at e1;simp only[hl,Nat.sub_self,List.getElem_cons_zero]at e1;by_cases k2:j<vals.length
     . rw[List.getElem_append_left k2]at e2;exact absurd e2 (eY g e1 j k2)
     . simp at h2;omega
def kC (l:Int)(ds:List Dyadic):Int:=ds.foldl (λl d=>min l (dE d)) l
def kZ (l:Int)(R:List (List Dyadic)):Int:=R.foldl kC l
def pk (low:Int)(d:Dyadic):Int:=dN d*2^(dE d-low).toNat
def abc (l:Int)(ds:List Dyadic):kC l ds<=l/\∀d∈ds,kC l ds<=dE d:=by
 induction ds generalizing l with
 |nil=>exact⟨Int.le_refl _,λd h=>by cases h⟩
 | cons x xs ih=>
   have h:=ih (min l (dE x));have e:kC l (x::xs)=kC (min l (dE x)) xs:=rfl;rw[e];refine⟨by omega,λd hd=>?_⟩;rcases List.mem_cons.1 hd with rfl|hd
   . omega
   . exact h.2 d hd
def Qk (l:Int)(R:List (List Dyadic)):kZ l R<=l/\∀r∈R,∀d∈r,kZ l R<=dE d:=by
 induction R generalizing l with
 |nil=>exact⟨Int.le_refl _,λd h=>by cases h⟩
 | cons x xs ih=>
   have h:=ih (kC l x);have h1:=abc l x;have e:kZ l (x::xs)=kZ (kC l x) xs:=rfl;rw[e];refine⟨by omega,λr hr d hd=>?_⟩;rcases List.mem_cons.1 hr with rfl|hr
   . have:=h1.2 d hd;omega
   . exact h.2 r hr d hd
def abb (l:Int)(ds:List Dyadic)(m:Int)(hl:m<=l)(h:∀d∈ds,m<=dE d):m<=kC l ds:=by
 induction ds generalizing l with
 |nil=>exact hl
 |cons x xs ih=>have hx:=h x (List.mem_cons_self ..);exact ih (min l (dE x)) zo (λd hd=>h d (List.mem_cons_of_mem _ hd))
def Qj (l:Int)(R:List (List Dyadic))(m:Int)(hl:m<=l)(h:∀r∈R,∀d∈r,m<=dE d):m<=kZ l R:=by
 induction R generalizing l with
 |nil=>exact hl
 |cons x xs ih=>exact ih (kC l x) (abb l x m hl (h x (List.mem_cons_self ..))) (λr hr=>h r (List.mem_cons_of_mem _ hr))
def aoe (l:Int)(ds:List Dyadic)(k:Nat)(h:k<ds.length):kC l (ds.take (k+1))=min (kC l (ds.take k)) (dE ds[k]):=by unfold kC;rw[List.take_succ_eq_append_getElem h,List.foldl_append];rfl
def aof (l:Int)(R:List (List Dyadic))(k:Nat)(h:k<R.length):kZ l (R.take (k+1))=kC (kZ l (R.take k)) R[k]:=by unfold kZ;rw[List.take_succ_eq_append_getElem h,List.foldl_append];rfl
def ale (x y z:Value)(W:World):(Instr.field 45 (.agg #[x,y,z]) 1).run Tryz.prog W=.ok z W:=by kernel_rfl
def arq (low:Int)(d:Dyadic)(h:low<=dE d):Dyadic.ofIntWithPrec (pk low d) (-low)=d:=by
 have e: -low= -(dE d)+((dE d-low).toNat:Int):=by omega
 unfold pk;rw[e,ow];exact(qI d).symm
def acm (a:Option Addr)(L cap n:Nat)(rows:List (List Raw))(B:Nat)(low:Int)(w:World)(hL:rows.length=L)(hL8:L<=8)(OU:n<=8)(hrow:∀r∈rows,r.length=n)(ha:cC w a rows)
 (hfit:∀r∈rows,∀c∈r,Fit B c) (hB:B<=10000000) (hT:aB w) (jq:kZ 0 (rows.map λr=>r.map dval)=low):
 Cl 200 #[.slice a L cap] w λe w'=>∃v,e=.returned (.tuple #[v,af (-low)])/\
  iF w' w.heap.size n ((rows.map λr=>r.map dval).map λr=>r.map (pk low)) L v/\Bw w w':=by
 obtain⟨i0,hi,hz0,hz1,hz2⟩:=info_parts Tryz.aw7;obtain⟨j0,hj,hy0,hy1,hy2⟩:=info_parts Tryz.axa;obtain⟨D,hD⟩:=az (rows.map λr=>r.map dval);have WK:D.length=L:=by rw[<-hD];simp[hL]
 have WM:∀k (h:k<rows.length) (h':k<D.length),D[k]=rows[k].map dval:=λk h h'=>by subst hD;simp
 have CP:∀r∈D,∀d∈r,-268435456<=dE d/\dE d<=268435456:=by intro r hr d hd;rw[<-hD]at hr;obtain⟨r',hr',rfl⟩:=List.mem_map.1 hr;obtain⟨x,hx,rfl⟩:=List.mem_map.1 hd;exact(((hfit r' hr' x hx).2).fit zo).1.2
 rw[hD]at jq⊢;have hlo:low<=0/\∀r∈D,∀d∈r,low<=dE d:=by rw[<-jq];exact Qk 0 D
 have hlb: -268435456<=low:=by rw[<-jq];exact Qj 0 D _ zd (λr hr d hd=>(CP r hr d hd).1)
 have Ea:∀k j (h:k<D.length) (h':j<=D[k].length),-268435456<=kC (kZ 0 (D.take k)) (D[k].take j)/\kC (kZ 0 (D.take k)) (D[k].take j)<=0:=by intro k j h h';have g1: -268435456<=kZ 0 (D.take k):=Qj 0 _ _ zd (λr hr d hd=>(CP r (List.mem_of_mem_take hr) d hd).1);have g2:=(Qk 0 (D.take k)).1;have g3:=(abc (kZ 0 (D.take k)) (D[k].take j)).1;exact⟨abb _ _ _ g1 (λd hd=>(CP _ (List.getElem_mem h) d (List.mem_of_mem_take hd)).1),by omega⟩
 obtain⟨Hi,cp,bR,bV,Hj,mE,mF,mG,Ki,Si,HDe,afS⟩:=gN hi hz0 hz1 hz2 hj hy0 hy1 hy2 WK WM CP jq;obtain⟨BO,Hlb,FM,Ha,HT,sJ,sF,HL⟩:=nk hlo hlb Ea ha hT hrow hfit hL;have hnl:IntKind.i64.wrap (-low)= -low:=by rw[IntKind.wrap_i64];omega
 obtain⟨nl,OZ⟩:=az (-low);obtain⟨S,hS⟩:=az (D.map λr=>r.map (pk low));have CZ:∀k (h:k<D.length),S.getD k []=D[k].map (pk low):=λk h=>by subst hS;simp[h]
 rw[hS,OZ];have Zi:IntKind.i64.wrap (-low)=nl:=by rw[hnl,OZ]
 obtain⟨LH,Kk⟩:=aI Zi CZ;clear hnl OZ Zi hS CZ hi hz0 hz1 hz2 hj hy0 hy1 hy2 Ea hlb hlo CP WM WK jq ha hT hrow hfit hL hD;go_enter Tryz.func200,Tryz.ntmps200;have Hb:=hbz w;go_wp2_with fail;go_loopw[4,18] (λs4 x wr=>∃k:Nat,k<=L/\x=af (k:Int)/\s4=af (kZ 0 (D.take k))/\Bw w wr) (λ_ x _=>L-(intOf x).toNat);case atStart=>exact⟨0,Nat.zero_le _,rfl,rfl,Hb.out⟩
 case round=>
  clear Hb;obtain⟨k,hk,rfl,rfl,pb⟩:=hrel;by_cases hlt:k<L
  . have hk2:k<rows.length:=by rw[HL.out];exact hlt
    have hk3:k<D.length:=by rw[Ki.out];exact hlt
    obtain⟨p,kz⟩:=az (rows[k]);obtain⟨b,o,a1,c1,hab,hc1,hat⟩:=(Ha.out.below pb).row k hk2;have oU:p.length=n:=by rw[<-kz];exact sJ.out _ (List.getElem_mem hk2)
    have fu:∀x∈p,Fit B x:=by rw[<-kz];exact sF.out _ (List.getElem_mem hk2)
    have sZ:=Si.out k hk2 hk3;rw[kz]at hc1 hat sZ;rw[oU]at hc1;have tC:=AE L cap k (k:Int) hab hlt rfl;rw[Nat.mul_one]at tC;have hst:=aof 0 D k hk3;have hpt:=λj (h:j<=n)=>FM.out k j hk3 (by rw[sZ,List.length_map,oU];exact h);rw[sZ]at hst;simp only[sZ]at hpt;obtain⟨l0,hl0⟩:=az (kZ 0 (D.take k));rw[hl0]at hst⊢;simp only[hl0]at hpt;obtain⟨eG,pJ,rc,bE,Hpt,aO⟩:=ia hat oU fu hst hpt pb;clear hat oU fu hst hpt pb hab kz sZ hl0 hk2 hk3;obtain⟨wc,hwc⟩:∃wc,wc=wr:=⟨_,rfl⟩;subst hwc;have gQ:=aO.out.size;go_wp2_with fail;go_loopw[4,24] (λs4 x wr=>∃j:Nat,j<=n/\x=af (j:Int)/\s4=af (kC l0 ((p.map dval).take j))/\Bw wc wr) (λ_ x _=>n-(intOf x).toNat);case atStart=>exact⟨0,Nat.zero_le _,rfl,rfl,Below.refl _ _⟩
    case round=>
     clear hc1;obtain⟨j,hj,rfl,rfl,hb2⟩:=hrel;by_cases bi:j<n
     . have k1:j<p.length:=by rw[pJ.out];exact bi
       obtain⟨sp,mp,ep,mf⟩:=pU (p[j]);have iU:=rc.out _ (List.getElem_mem k1);have hst:=aoe l0 (p.map dval) j (by simpa using k1);rw[List.getElem_map,mf]at hst;rw[mf]at iU;obtain⟨X,hX⟩:=az (dval (sp,mp,ep));rw[hX]at hst;obtain⟨l1,od⟩:=az (kC l0 ((p.map dval).take j));rw[od]at hst⊢;obtain⟨b1,o1,oL,p0,p1,p2⟩:=(eG.out.below hb2).num j k1 mf;have YR:=ot n c1 j (j:Int) oL bi rfl;have Hp:Hid (aR wr b1 (o1+j*3) [ag sp,ah mp,af ep]):=jA p0 p1 p2;obtain⟨wE,HX,BC,sK,nI⟩:=eV iU.1 hX hb2 hst ((HT.out.below aO.out).below hb2);clear hb2 iU hX hst mf oL p0 p1 p2 od;have Hb:=hbz wr;obtain⟨ae,ai⟩:=qZ (Hp.an trivial);have p1:wr.cell? ⟨b1,o1+j*3+1,none⟩=some (ah mp):=ae.1.out.cell 1 zm;have p0:wr.cell? ⟨b1,o1+j*3,none⟩=some (ag sp):=ae.1.out.cell 0 zm;have p2:wr.cell? ⟨b1,o1+j*3+2,none⟩=some (af ep):=ae.1.out.cell 2 zm;have P0:=p0;have P1:=p1;have P2:=p2;have fl:=ale (ag (au (dN X))) (ah (nt (dN X).natAbs)) (af (dE X));obtain⟨W4,mR,aG,ae,ai⟩:=cg wr (Hb.an ae) 45 [ag sp,ah mp,af ep];have HT:Hid (aB W4):=nI.out.below ae.2.1.out;go_wp2_with fail;refine aJ (HT.an ae) (nU sp mp ep X HX.out _ wE.out HT.out) λw5 ae ai=>?_;go_wp2;go_roundw;case rel=>exact⟨j+1,by omega,by go_num,by rw[sK.out],aC BC.out ae.2.2.1.out⟩
       case measure=>exact bf
     . obtain rfl:j=n:=by omega
       have hpt:(p.map dval).take j=p.map dval:=List.take_of_length_le (by simp[pJ.out]);rw[hpt];go_wp2;go_roundw;case rel=>exact⟨k+1,by omega,by go_num,by rw[bE.out],aC aO.out hb2⟩
       case measure=>exact bf
  . obtain rfl:k=L:=by omega
    have WN:D.take k=D:=List.take_of_length_le (by rw[Ki.out];exact Nat.le_refl _);rw[WN,afS.out];have aO:=aj pb;clear pb WN;obtain⟨wa,hwa⟩:∃wa,wa=wr:=⟨_,rfl⟩;subst hwa;have Rt:=aO.out.size;go_wp2_with fail;go_loopw[9,37] (λs9 x wr=>∃(i:Nat) (v:Value),i<=k/\x=af (i:Int)/\v=s9/\iF wr w.heap.size n S i v/\Bw w wr) (λ_ x _=>k-(intOf x).toNat);case atStart=>exact⟨0,_,Nat.zero_le _,rfl,rfl,iF.nil _ _ _ _,aO.out⟩
    case round=>
     clear aO Rt;obtain⟨i,v,hk,rfl,rfl,pv,pb⟩:=hrel;by_cases hlt:i<k
     . have hk2:i<rows.length:=by rw[HL.out];exact hlt
       have hk3:i<D.length:=by rw[Ki.out];exact hlt
       obtain⟨p,kz⟩:=az (rows[i]);obtain⟨b,o,a1,c1,hab,hc1,hat⟩:=(Ha.out.below pb).row i hk2;have oU:p.length=n:=by rw[<-kz];exact sJ.out _ (List.getElem_mem hk2)
       have fu:∀x∈p,Fit B x:=by rw[<-kz];exact sF.out _ (List.getElem_mem hk2)
       have sZ:=Si.out i hk2 hk3;have tj:=Kk.out i hk3;have hpl:=BO.out.2 _ (List.getElem_mem hk3);rw[kz]at hc1 hat sZ;rw[sZ]at tj hpl;rw[oU]at hc1;have tC:=AE k cap i (i:Int) hab hlt rfl;rw[Nat.mul_one]at tC;obtain⟨Z,hZ⟩:=az ((p.map dval).map (pk low));rw[hZ]at tj;obtain⟨eG,pJ,rc,yF,HZ,jW,aO,je⟩:=nk hat oU fu tj hZ hpl pb pv;clear hat oU fu tj hZ hpl pb pv hab kz sZ hk2 hk3;obtain⟨wc,hwc⟩:∃wc,wc=wr:=⟨_,rfl⟩;subst hwc;have gQ:=aO.out.size;go_wp2_with fail;go_loopw[12,43] (λs12 x wr=>∃(j:Nat) (v2:Value),j<=n/\x=af (j:Int)/\v2=s12/\wr.ownsRow wc.heap.size 43 2 v2 j (zC (Z.take j))/\Bw wc wr) (λ_ x _=>n-(intOf x).toNat);case atStart=>exact⟨0,_,Nat.zero_le _,rfl,rfl,World.ownsRow_nil _ _ _ _,Below.refl _ _⟩
       case round=>
        clear hc1;obtain⟨j,v2,hj,rfl,rfl,ho,hb2⟩:=hrel;by_cases bi:j<n
        . have k1:j<p.length:=by rw[pJ.out];exact bi
          obtain⟨sp,mp,ep,mf⟩:=pU (p[j]);have iU:=rc.out _ (List.getElem_mem k1);rw[mf]at iU;obtain⟨X,hX⟩:=az (dval (sp,mp,ep));have hle:low<=dE X:=jW.out X (by rw[<-hX,<-mf];exact List.mem_map_of_mem (List.getElem_mem k1));have dR:Sm B X:=by rw[<-hX];exact iU.2
          have Ol:=(dR.fit zo).1;have jo:(nt (dN X).natAbs).length<=268435456:=Ol.1;have hXe: -268435456<=dE X/\dE X<=268435456:=Ol.2;obtain⟨Y,hY⟩:=az (pk low X);have hlb:=Hlb.out;have hl0:=BO.out.1;obtain⟨t,ht⟩:∃t:Int,dE X-low=t:=⟨_,rfl⟩;have hwr:IntKind.i64.wrap (dE X-low)=t:=by rw[IntKind.wrap_i64];omega
          have hsh:∀W,Cv 209 #[.agg #[ag (au (dN X)),ah (nt (dN X).natAbs)],af t] W (cw Y):=by intro W;have h:=RI (au (dN X)) (nt (dN X).natAbs) (dE X-low).toNat W zo zo;rw[dX,show((dE X-low).toNat:Int)=t by omega]at h;rw[<-hY];exact h
          have bE:Hid (zC (Z.take (j+1))=zC (Z.take j)++[ag (au Y),ah (nt Y.natAbs)]):=by
           show _=_
           rw[<-HZ.out,List.take_succ_eq_append_getElem (by simpa using k1),atn];congr 1;simp only[List.getElem_map,mf,hX,hY];rfl
          obtain⟨b1,o1,oL,p0,p1,p2⟩:=(eG.out.below hb2).num j k1 mf;have YR:=ot n c1 j (j:Int) oL bi rfl;have Hp:Hid (aR wr b1 (o1+j*3) [ag sp,ah mp,af ep]):=jA p0 p1 p2;obtain⟨wE,HX,Ho,cn,za,kN,nI⟩:=jv iU.1 hX ho hb2 hsh hwr ((HT.out.below aO.out).below hb2);have sz2:=hb2.size;clear ho hb2 iU hX mf oL p0 p1 p2 hle dR Ol jo hXe hY hlb hl0 ht hsh hwr;have Hb:=hbz wr;obtain⟨ae,ai⟩:=qZ (Hp.an trivial);have p1:wr.cell? ⟨b1,o1+j*3+1,none⟩=some (ah mp):=ae.1.out.cell 1 zm;have p0:wr.cell? ⟨b1,o1+j*3,none⟩=some (ag sp):=ae.1.out.cell 0 zm;have p2:wr.cell? ⟨b1,o1+j*3+2,none⟩=some (af ep):=ae.1.out.cell 2 zm;have P0:=p0;have P1:=p1;have P2:=p2;obtain⟨W4,mR,aG,ae,ai⟩:=cg wr (Hb.an ae) 45 [ag sp,ah mp,af ep];have HT:Hid (aB W4):=nI.out.below ae.2.1.out;go_wp2_with fail;refine aJ (HT.an ae) (nU sp mp ep X HX.out _ wE.out HT.out) λw5 ae ai=>?_;obtain⟨W6,rL,aG,ae,ai⟩:=cg w5 ae 45 (bo X);have hwr:=kN.out;go_wp2_with fail;refine aJ ae (za.out _) λw7 ae ai=>?_;clear hwr;obtain⟨W8,Xv,aG,ae,ai⟩:=cg w7 ae 43 [ag (au Y),ah (nt Y.natAbs)];have cu:=ownsRow_below Ho.out ae.2.2.2.2.1.out;have jr:=ae.2.2.2.2.1.out.size;have hnews:=fJ ae.1.out;skip
          go_wp2_with (at_builtin;refine wpList_append_own_at _ rfl _ _ 226 rfl wc.heap.size 43 i0 _ 2 24 Tryz.underlying226 Hi.out cp.out bR.out bV.out rfl zd v2 j (zC (Z.take j)) rfl cu ⟨w7.heap.size,0,none⟩ 1 1 [ag (au Y),ah (nt Y.natAbs)] rfl rfl hnews zy zx zo zo ?_;intro v' w9 eD kU _ _;obtain⟨g',rA,rfl⟩:=ownsRow_succ eD);go_roundw;case rel=>
           refine⟨j+1,_,by omega,by go_num,rfl,?_,?_⟩
           . rw[bE.out];exact eD
           . exact(aC cn.out ae.2.2.2.2.1.out).grown kU zo (λj e=>cZ cu j e)
          case measure=>exact bf
        . obtain rfl:j=n:=by omega
          have uX:Z.take j=Z:=List.take_of_length_le (by rw[<-HZ.out];simp[pJ.out]);rw[uX]at ho;obtain⟨a2,cap2,rfl,_,_⟩:=cO ho;have iu:=ho.lt;obtain⟨vals,hvl,hov,oW,ma⟩:=je.out;have eY:∀g,(Value.slice a2 j cap2).ownBlock=some g->∀m (h:m<vals.length),vals[m].ownBlock≠some g:=by intro g h1 m h2 h3;have:=(iu g h1).1;have:=((oW m h2).lt g h3).2;omega
          obtain⟨Lg,sL,wP,cN,cn,Mg,Ho⟩:=jv eY hvl oW hov hb2 ma ho;have Hb:=hbz wr;have sz2:=hb2.size;clear eY hvl hov oW hb2 ma iu uX ho bi hj;obtain⟨W6,rL,aG,ae,ai⟩:=cg wr (Hb.an trivial) 226 [.slice a2 j cap2];have ND:=aC cn.out ae.2.1.out;have cu:=ownsRow_below cN.out ND;have jr:=ae.2.1.out.size;have hnews:∀i u,([.slice a2 j cap2]:List Value)[i]?=some u->W6.cell? ((⟨wr.heap.size,0,none⟩:Addr).add i)=some u:=fJ ae.1.out;skip
          go_wp2_with (at_builtin;refine wpList_append_own_at _ rfl _ _ 211 rfl w.heap.size 226 j0 _ 1 24 Tryz.underlying211 Hj.out mE.out mF.out mG.out rfl zd v i vals rfl cu ⟨wr.heap.size,0,none⟩ 1 1 [.slice a2 j cap2] rfl rfl hnews zy zx zo zo ?_;intro v' w7 dt dM _ _;obtain⟨g',rA,rfl⟩:=ownsRow_succ dt);go_roundw;case rel=>
           refine⟨i+1,_,by omega,by go_num,rfl,?_,?_⟩
           . refine iF.push (w:=W6) sL.out cu (λm h=>ownsRow_below (wP.out m h) ND) Mg.out ?_ Lg.out dt dM;rw[yF.out];exact pj (ownsRow_below Ho.out ae.2.1.out) zo
           . exact(aC aO.out ND).grown dM zo (λj e=>cZ cu j e)
          case measure=>exact bf
     . obtain rfl:i=k:=by omega
       obtain⟨aO,je⟩:=aI pb pv;clear pb pv;have hnl:=LH.out;go_wp2;refine bodyPost_ret (v:=.tuple #[v,af nl]) (by simp[results,Tryz.results200,go_sem]) rfl ⟨v,rfl,je.out,aO.out⟩
end Go.Proofs.YtpfgffadgkkedaaGreatDoor
namespace Go.Proofs.YtpfgffadgkkedaaGreatDoor
open Go.RowKit
def lh {w:World}{base:Nat}{e:TypeId}{size n cap g:Nat}{xs:List Value}(h:w.ownsRow base e size (.slice (some ⟨g,0,none⟩) n cap) n xs)(j:Nat)(hj:j<xs.length):w.cell? ⟨g,j,none⟩=some xs[j]:=by
 rcases h.2 with⟨h1,_⟩ |⟨g',cap',cur,h1,_,hg,_,_,_,hx⟩
 . simp at h1
 . simp only[Value.slice.injEq,Option.some.injEq,Addr.mk.injEq,and_true,true_and]at h1;obtain⟨rfl,rfl⟩:=h1;have h2:cur.toList.take (n*size)=xs:=hx;have h3:cur.toList[j]?=some xs[j]:=by rw[<-List.getElem?_eq_getElem hj];simp only[<-h2];rw[List.getElem?_take];rw[<-h2,List.length_take]at hj;rw[if_pos (Nat.lt_of_lt_of_le hj (Nat.min_le_left _ _))]
   have h4:ar w g e cur.toList:=by unfold ar;simpa using hg
   rw[h4.cell];exact h3
def iZ {w:World}{base:Nat}{e:TypeId}{size n cap g:Nat}{xs:List Value}(h:w.ownsRow base e size (.slice (some ⟨g,0,none⟩) n cap) n xs)(j:Nat)(u:Value):(w.setCell ⟨g,j,none⟩ u).ownsRow base e size (.slice (some ⟨g,0,none⟩) n cap) n (xs.set j u):=by
 refine⟨by rw[List.length_set];exact h.1,?_⟩;rcases h.2 with⟨h1,_⟩ |⟨g',cap',cur,h1,hb,hg,h4,h5,h6,hx⟩
 . simp at h1
 . simp only[Value.slice.injEq,Option.some.injEq,Addr.mk.injEq,and_true,true_and]at h1;obtain⟨rfl,rfl⟩:=h1;refine .inr ⟨g,cap,cur.setIfInBounds j u,rfl,hb,?_,h4,h5,by simpa using h6,?_⟩
   . simp[World.setCell,Array.getElem?_modify,hg]
   . rw[<-hx];simp[List.take_set]
def atp (zs:List Int):(zC zs).length=zs.length*2:=jJ iC 2 (λ_=>rfl) zs
def ato (zs:List Int)(j:Nat)(hj:j<zs.length):(zC zs)[j*2]?=some (ag (au zs[j]))/\(zC zs)[j*2+1]?=some (ah (nt zs[j].natAbs)):=by
 induction zs generalizing j with
 |nil=>simp at hj
 | cons z zs ih=>
   have e:zC (z::zs)=ag (au z)::ah (nt z.natAbs)::zC zs:=rfl;rw[e];cases j with
   |zero=>exact⟨rfl,rfl⟩
   |succ j=>have:=ih j (by simpa using hj);rw[show(j+1) *2=j*2+1+1 by omega];simpa using this
def atq (zs:List Int)(j:Nat)(hj:j<zs.length)(y:Int):((zC zs).set (j*2) (ag (au y))).set (j*2+1) (ah (nt y.natAbs))=zC (zs.set j y):=by
 induction zs generalizing j with
 |nil=>simp at hj
 | cons z zs ih=>
   have e:zC (z::zs)=ag (au z)::ah (nt z.natAbs)::zC zs:=rfl;rw[e];cases j with
   |zero=>rfl
   |succ j=>have:=ih j (by simpa using hj);rw[show(j+1) *2=j*2+1+1 by omega];simp only[List.set_cons_succ];rw[this];rfl
def iF.num {w:World}{base n L:Nat}{R:List (List Int)}{v:Value}(h:iF w base n R L v)(i j:Nat)(hi:i<L)(hj:j<n)(hR:R.length=L)(hr:(R.getD i []).length=n):
 ∃go cap g c,v=.slice (some ⟨go,0,none⟩) L cap/\base<=go/\base<=g/\g≠go/\w.cell? ⟨go,i,none⟩=some (.slice (some ⟨g,0,none⟩) n c)/\
  w.cell? ⟨g,j*2,none⟩=some (ag (au ((R.getD i []).getD j 0)))/\w.cell? ⟨g,j*2+1,none⟩=some (ah (nt ((R.getD i []).getD j 0).natAbs))/\
  ∀y:Int,iF ((w.setCell ⟨g,j*2,none⟩ (ag (au y))).setCell ⟨g,j*2+1,none⟩ (ah (nt y.natAbs))) base n (R.set i ((R.getD i []).set j y)) L v:=by
 obtain⟨vals,hl,ho,hv,hd⟩:=h;have hi2:i<vals.length:=by omega
 have hrow:=hv i hi2;have hxl:(zC (R.getD i [])).length=n*2:=by rw[atp,hr]
 obtain⟨a0,cap,rfl,_,_⟩:=cO ho;obtain⟨a1,c,e1,_,hab⟩:=cO hrow;rw[e1]at hrow;rcases ho.2 with⟨h1,_⟩ |⟨go,cap',cur,h1,im,hgo,_⟩
 . simp at h1;omega
 simp only[Value.slice.injEq,true_and]at h1;obtain⟨rfl,rfl⟩:=h1;rcases hrow.2 with⟨h1,_⟩ |⟨g,c',cur',h1,hbg,hgg,_⟩
 . simp at h1;omega
 simp only[Value.slice.injEq,true_and]at h1;obtain⟨rfl,rfl⟩:=h1;have hne:g≠go:=by rintro rfl;rw[hgo]at hgg;simp at hgg
 have hat:=ato (R.getD i []) j zo;have hg0:(R.getD i []).getD j 0=(R.getD i [])[j]'zo:=by rw[List.getD_eq_getElem?_getD,List.getElem?_eq_getElem zo];rfl
 have hc0:=lh hrow (j*2) zo;have hc1:=lh hrow (j*2+1) zo;rw[<-List.getElem?_eq_getElem]at hc0 hc1;rw[hat.1]at hc0;rw[hat.2]at hc1;refine⟨go,cap,g,c,rfl,im,hbg,hne,?_,by rw[hg0];exact hc0,by rw[hg0];exact hc1,λy=>?_⟩
 . rw[lh ho i zo,e1]
 . refine⟨vals,hl,?_,λm hm=>?_,hd⟩
   . exact ownsRow_setCell_other (ownsRow_setCell_other ho (by simpa[Value.ownBlock]using hne.symm) _) (by simpa[Value.ownBlock]using hne.symm) _
   . by_cases rO:m=i
     . subst rO;have hs:(R.set m ((R.getD m []).set j y)).getD m []=(R.getD m []).set j y:=by rw[List.getD_eq_getElem?_getD,List.getElem?_set_self zo];rfl
       rw[hs,e1,<-atq _ _ zo];exact iZ (iZ hrow _ _) _ _
     . have hs:(R.set i ((R.getD i []).set j y)).getD m []=R.getD m []:=by rw[List.getD_eq_getElem?_getD,List.getElem?_set_ne (λe=>rO e.symm),<-List.getD_eq_getElem?_getD]
       rw[hs];have hno:vals[m].ownBlock≠some g:=λe=>rO (hd m i hm hi2 g e (by rw[e1];rfl));exact ownsRow_setCell_other (ownsRow_setCell_other (hv m hm) hno _) hno _
def swp (i m k:Nat):Nat:=if k=i then m else if k=m then i else k
def ar0 {i m a b:Nat}(h:swp i m a=swp i m b):a=b:=by
 unfold swp at h;repeat' split at h
 all_goals omega
def JS {i m k L:Nat}(hi:i<L)(hm:m<L)(hk:k<L):swp i m k<L:=by
 unfold swp;repeat' split
 all_goals omega
def Rk {α:Type}(l:List α)(d:α)(i m:Nat)(hi:i<l.length)(hm:m<l.length)(k:Nat)(hk:k<l.length):((l.set i (l.getD m d)).set m (l.getD i d)).getD k d=l.getD (swp i m k) d:=by
 unfold swp;by_cases h1:k=m
 . subst h1;rw[List.getD_eq_getElem?_getD,List.getElem?_set_self (by simpa using hk)];by_cases h2:k=i
   . subst h2;simp
   . simp[h2]
 . rw[List.getD_eq_getElem?_getD,List.getElem?_set_ne (λe=>h1 e.symm)];by_cases h2:k=i
   . subst h2;rw[List.getElem?_set_self (by simpa using hk)];simp
   . rw[List.getElem?_set_ne (λe=>h2 e.symm)];simp[h1,h2]
def iF.swap {w:World}{base n L go cap:Nat}{R:List (List Int)}(h:iF w base n R L (.slice (some ⟨go,0,none⟩) L cap))(i m:Nat)(hi:i<L)(hm:m<L)(hR:R.length=L):
 ∃x y,w.cell? ⟨go,i,none⟩=some x/\w.cell? ⟨go,m,none⟩=some y/\iF ((w.setCell ⟨go,i,none⟩ y).setCell ⟨go,m,none⟩ x) base n ((R.set i (R.getD m [])).set m (R.getD i [])) L (.slice (some ⟨go,0,none⟩) L cap):=by
 obtain⟨vals,hl,ho,hv,hd⟩:=h;have hi2:i<vals.length:=by omega
 have hm2:m<vals.length:=by omega
 have hgo:∀k (hk:k<vals.length),vals[k].ownBlock≠some go\/vals[k].ownBlock=none:=by
  intro k hk;rcases EJ (hv k hk) ho zd with e|e
  . exact .inr e
  . exact .inl e
 have hel:∀k (hk:k<vals.length),((vals.set i vals[m]).set m vals[i])[k]'(by simpa using hk)=vals[swp i m k]'(JS hi2 hm2 hk):=by intro k hk;have:=Rk vals (ag false) i m hi2 hm2 k hk;have hs:=JS hi2 hm2 hk;simpa[List.getD_eq_getElem?_getD,List.getElem?_eq_getElem,hi2,hm2,hk,hs]using this
 refine⟨vals[i],vals[m],lh ho i zo,lh ho m zo,_,by simp[hl],iZ (iZ ho i _) m _,λk hk=>?_,λa b ha hb g e1 e2=>?_⟩
 . have hk2:k<vals.length:=by simpa using hk
   have hs:=JS hi2 hm2 hk2;rw[hel k hk2,Rk R [] i m zo zo k zo];have hno:vals[swp i m k].ownBlock≠some go:=by
    rcases hgo _ hs with e|e
    . exact e
    . rw[e];simp
   exact ownsRow_setCell_other (ownsRow_setCell_other (hv _ hs) hno _) hno _
 . have ha2:a<vals.length:=by simpa using ha
   have hb2:b<vals.length:=by simpa using hb
   rw[hel a ha2]at e1;rw[hel b hb2]at e2;exact ar0 (hd _ _ _ _ g e1 e2)
end Go.Proofs.YtpfgffadgkkedaaGreatDoor
namespace Go.Proofs.YtpfgffadgkkedaaGreatDoor
end Go.Proofs.YtpfgffadgkkedaaGreatDoor
