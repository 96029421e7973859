/- Small facts on worlds that the walks share. -/
import Derived.Test.YtoopepmmepmfnaaGreatDoorProg
import Derived.Test.YtoopepmmepmfnaaGreatDoorZ1
import Derived.WalkKit
import Derived.WalkSpells
import Derived.WalkLawsBesides
import Derived.Lib.Hide
import Derived.BigQuiet
import Derived.Deep.QuietTactic
import Derived.Deep.LoopGhost
import Derived.Deep.DeepFit
set_option linter.unusedVariables false
set_option linter.unusedSimpArgs false
set_option maxRecDepth 100000
set_option maxHeartbeats 16000000
namespace Go.Proofs.YtoopepmmepmfnaaGreatDoor
open Go.RowKit
theorem zo {p:Prop}(h:p:=by omega):p:=h
theorem zd {p:Prop}(h:p:=by decide):p:=h
theorem zm {p:Prop}(h:p:=by simp):p:=h
theorem zj {p:Prop}(h:p:=by simp<;>omega):p:=h
theorem zp {p:Prop}(h:p:=by(dsimp only;omega)):p:=h
theorem zi {p:Prop}(h:p:=by(simp;omega)):p:=h
theorem zk {p:Prop}(h:p:=by kernel_rfl):p:=h
theorem zf {p:Prop}(h:p:=by(first| (dsimp only;omega) | (simp<;>omega))):p:=h
theorem zg {p:Prop}(h:p:=by(first| (dsimp only;omega) | (show _≠_;omega) | (simp<;>omega))):p:=h
theorem ZS {p:Prop}(h:p:=by(have:=Hb.out.size;omega)):p:=h
theorem zt {p:Prop}(h:p:=by(have:=Hb.out.size;simp<;>omega)):p:=h
theorem zx {p:Prop}(h:p:=by(simp[maxLen];omega)):p:=h
theorem zy {p:Prop}(h:p:=by(simp[Value.oneCell'])):p:=h
theorem zc {p:Prop}(h:p:=by(intro o c a v w;cases o.dst<;>exact id)):p:=h
theorem zb {p:Prop}(h:p:=by(repeat first|exact Hb.out| (refine Below.setCell ?_ (by have:=Hb.out.size;first| (dsimp only;omega) | (show _<=_;omega) | (simp<;>omega)) _) | (refine Below.alloc ?_ (by have:=Hb.out.size;simp<;>omega) _) |refine Below.drew ?_)):p:=h
theorem zl {w:World}{o:Obj}:Below w.heap.size w (w.alloc o):=(Below.refl _ _).alloc (Nat.le_refl _) _
abbrev Bw (w:World):=Below w.heap.size w
def ag (w:World)(b:Nat)(t:TypeId)(cs:List Value):Prop:=w.heap[b]?=some (.cells cs.toArray t (0,0))
theorem ag.lt {w:World}{b:Nat}{t:TypeId}{cs:List Value}(h:ag w b t cs):b<w.heap.size:=lt_of_block h
theorem ag.cell {w:World}{b:Nat}{t:TypeId}{cs:List Value}(h:ag w b t cs)(j:Nat):w.cell? ⟨b,j,none⟩=cs[j]?:=by unfold ag at h;simp[World.cell?,h]
theorem ag.free {w:World}{b:Nat}{t:TypeId}{cs:List Value}(h:ag w b t cs)(j:Nat):w.frozen? ⟨b,j,none⟩=false:=by unfold ag at h;simp[World.frozen?,h]
theorem ag.set {w:World}{b:Nat}{t:TypeId}{cs:List Value}(h:ag w b t cs)(j:Nat)(v:Value):ag (w.setCell ⟨b,j,none⟩ v) b t (cs.set j v):=by unfold ag at*;simp[World.setCell,Array.getElem?_modify,h]
theorem ag.aqG {w:World}{b:Nat}{t:TypeId}{cs:List Value}(h:ag w b t cs)(a:Addr)(hne:a.block≠b)(v:Value):ag (w.setCell a v) b t cs:=by unfold ag at*;rw[Below.heap_setCell _ _ _ _ (λe=>hne e.symm)];exact h
theorem ag.drew {w:World}{b:Nat}{t:TypeId}{cs:List Value}(h:ag w b t cs):ag w.drew b t cs:=h
theorem ag.alloc {w:World}{b:Nat}{t:TypeId}{cs:List Value}(h:ag w b t cs)(o:Obj):ag (w.alloc o) b t cs:=by have:=h.lt;unfold ag at*;rw[Below.heap_alloc _ _ _ this];exact h
theorem ag.new (w:World)(t:TypeId)(cs:List Value):ag (w.alloc (.cells cs.toArray t)) w.heap.size t cs:=heap_alloc_new w _
theorem ag.below {w w':World}{b:Nat}{t:TypeId}{cs:List Value}(h:ag w b t cs)(hb:Bw w w'):ag w' b t cs:=by have:=h.lt;unfold ag at*;rw[hb.block b this];exact h
theorem ag.grown {w w':World}{b:Nat}{t:TypeId}{cs:List Value}{r:Option Nat}(h:ag w b t cs)(hb:w.grownBy w' r)(hne:some b≠r):ag w' b t cs:=by have:=h.lt;unfold ag at*;rw[hb.block b this hne];exact h
theorem kB {w w':World}{b:Nat}{t:TypeId}{cs:List Value}(h:RowKit.Hid (ag w b t cs))(k:Bw w w'):RowKit.Hid (ag w' b t cs):=h.out.below k
theorem fy {w:World}{t:TypeId}{cs:List Value}:ag (w.alloc (.cells cs.toArray t)) w.heap.size t cs/\Bw w (w.alloc (.cells cs.toArray t)):=⟨ag.new _ _ _,zl⟩
theorem fA {w:World}{t:TypeId}{cs:List Value}:ag (w.alloc (.cells cs.toArray t)).drew w.heap.size t cs/\Bw w (w.alloc (.cells cs.toArray t)).drew:=⟨ag.new w t cs,zl.drew⟩
theorem af {p:Prop}(h:p):RowKit.Hid p:=Lib.hid h
theorem az {α:Sort _}(a:α):∃x,a=x:=⟨_,rfl⟩
theorem tH (a:Bool×List UInt8×Int):∃s m e,a=(s,m,e):=⟨_,_,_,rfl⟩
theorem aJ {a b:Prop}(m:a)(n:b):RowKit.Hid a/\RowKit.Hid b:=⟨af m,af n⟩
theorem cP {a b c:Prop}(m:a)(n:b)(o:c):RowKit.Hid a/\RowKit.Hid b/\RowKit.Hid c:=⟨af m,af n,af o⟩
theorem dt {a b c d:Prop}(m:a)(n:b)(o:c)(p:d):RowKit.Hid a/\RowKit.Hid b/\RowKit.Hid c/\RowKit.Hid d:=⟨af m,af n,af o,af p⟩
theorem iA {a b c d e:Prop}(m:a)(n:b)(o:c)(p:d)(q:e):RowKit.Hid a/\RowKit.Hid b/\RowKit.Hid c/\RowKit.Hid d/\RowKit.Hid e:=⟨af m,af n,af o,af p,af q⟩
theorem iB {a b c d e f:Prop}(m:a)(n:b)(o:c)(p:d)(q:e)(r:f):RowKit.Hid a/\RowKit.Hid b/\RowKit.Hid c/\RowKit.Hid d/\RowKit.Hid e/\RowKit.Hid f:=⟨af m,af n,af o,af p,af q,af r⟩
theorem jC {a b c d e f g:Prop}(m:a)(n:b)(o:c)(p:d)(q:e)(r:f)(s:g):RowKit.Hid a/\RowKit.Hid b/\RowKit.Hid c/\RowKit.Hid d/\RowKit.Hid e/\RowKit.Hid f/\RowKit.Hid g:=⟨af m,af n,af o,af p,af q,af r,af s⟩
theorem mB {a b c d e f g h:Prop}(m:a)(n:b)(o:c)(p:d)(q:e)(r:f)(s:g)(t:h):RowKit.Hid a/\RowKit.Hid b/\RowKit.Hid c/\RowKit.Hid d/\RowKit.Hid e/\RowKit.Hid f/\RowKit.Hid g/\RowKit.Hid h:=⟨af m,af n,af o,af p,af q,af r,af s,af t⟩
theorem Fa {a b c d e f g h i:Prop}(m:a)(n:b)(o:c)(p:d)(q:e)(r:f)(s:g)(t:h)(u:i):RowKit.Hid a/\RowKit.Hid b/\RowKit.Hid c/\RowKit.Hid d/\RowKit.Hid e/\RowKit.Hid f/\RowKit.Hid g/\RowKit.Hid h/\RowKit.Hid i:=⟨af m,af n,af o,af p,af q,af r,af s,af t,af u⟩
theorem uk {a b c d e f g h i j:Prop}(m:a)(n:b)(o:c)(p:d)(q:e)(r:f)(s:g)(t:h)(u:i)(v:j):RowKit.Hid a/\RowKit.Hid b/\RowKit.Hid c/\RowKit.Hid d/\RowKit.Hid e/\RowKit.Hid f/\RowKit.Hid g/\RowKit.Hid h/\RowKit.Hid i/\RowKit.Hid j:=⟨af m,af n,af o,af p,af q,af r,af s,af t,af u,af v⟩
theorem iR {a b c d e f g h i j k l:Prop}(m:a)(n:b)(o:c)(p:d)(q:e)(r:f)(s:g)(t:h)(u:i)(v:j)(w:k)(x:l):RowKit.Hid a/\RowKit.Hid b/\RowKit.Hid c/\RowKit.Hid d/\RowKit.Hid e/\RowKit.Hid f/\RowKit.Hid g/\RowKit.Hid h/\RowKit.Hid i/\RowKit.Hid j/\RowKit.Hid k/\RowKit.Hid l:=⟨af m,af n,af o,af p,af q,af r,af s,af t,af u,af v,af w,af x⟩
section
variable {w:World} {b:Nat} {t:TypeId} {x0 x1 x2 x3:Value}
theorem ag.c1 (h:ag w b t [x0]):w.cell? ⟨b,0,none⟩=some x0:=h.cell 0
theorem ag.c2 (h:ag w b t [x0,x1]):w.cell? ⟨b,0,none⟩=some x0/\w.cell? ⟨b,1,none⟩=some x1:=⟨h.cell 0,h.cell 1⟩
theorem ag.c3 (h:ag w b t [x0,x1,x2]):w.cell? ⟨b,0,none⟩=some x0/\w.cell? ⟨b,1,none⟩=some x1/\w.cell? ⟨b,2,none⟩=some x2:=⟨h.cell 0,h.cell 1,h.cell 2⟩
theorem ag.c4 (h:ag w b t [x0,x1,x2,x3]):w.cell? ⟨b,0,none⟩=some x0/\w.cell? ⟨b,1,none⟩=some x1/\w.cell? ⟨b,2,none⟩=some x2/\w.cell? ⟨b,3,none⟩=some x3:=⟨h.cell 0,h.cell 1,h.cell 2,h.cell 3⟩
theorem ag.g2 (h:ag w b t [x0,x1]):w.cell? ⟨b,0,none⟩=some x0/\w.frozen? ⟨b,0,none⟩=false/\w.cell? ⟨b,1,none⟩=some x1/\w.frozen? ⟨b,1,none⟩=false:=⟨h.cell 0,h.free 0,h.cell 1,h.free 1⟩
theorem ag.g3 (h:ag w b t [x0,x1,x2]):w.cell? ⟨b,0,none⟩=some x0/\w.frozen? ⟨b,0,none⟩=false/\w.cell? ⟨b,1,none⟩=some x1/\w.frozen? ⟨b,1,none⟩=false/\w.cell? ⟨b,2,none⟩=some x2/\w.frozen? ⟨b,2,none⟩=false:=
 ⟨h.cell 0,h.free 0,h.cell 1,h.free 1,h.cell 2,h.free 2⟩
theorem ag.g4 (h:ag w b t [x0,x1,x2,x3]):w.cell? ⟨b,0,none⟩=some x0/\w.frozen? ⟨b,0,none⟩=false/\w.cell? ⟨b,1,none⟩=some x1/\w.frozen? ⟨b,1,none⟩=false/\w.cell? ⟨b,2,none⟩=some x2/\w.frozen? ⟨b,2,none⟩=false/\w.cell? ⟨b,3,none⟩=some x3/\w.frozen? ⟨b,3,none⟩=false:=
 ⟨h.cell 0,h.free 0,h.cell 1,h.free 1,h.cell 2,h.free 2,h.cell 3,h.free 3⟩
theorem ag.c5 {x0 x1 x2 x3 x4:Value}(h:ag w b t [x0,x1,x2,x3,x4]):w.cell? ⟨b,0,none⟩=some x0/\w.cell? ⟨b,1,none⟩=some x1/\w.cell? ⟨b,2,none⟩=some x2/\w.cell? ⟨b,3,none⟩=some x3/\w.cell? ⟨b,4,none⟩=some x4:=⟨h.cell 0,h.cell 1,h.cell 2,h.cell 3,h.cell 4⟩
theorem ag.g5 {x0 x1 x2 x3 x4:Value}(h:ag w b t [x0,x1,x2,x3,x4]):w.cell? ⟨b,0,none⟩=some x0/\w.frozen? ⟨b,0,none⟩=false/\w.cell? ⟨b,1,none⟩=some x1/\w.frozen? ⟨b,1,none⟩=false/\w.cell? ⟨b,2,none⟩=some x2/\w.frozen? ⟨b,2,none⟩=false/\w.cell? ⟨b,3,none⟩=some x3/\w.frozen? ⟨b,3,none⟩=false/\w.cell? ⟨b,4,none⟩=some x4/\w.frozen? ⟨b,4,none⟩=false:=⟨h.cell 0,h.free 0,h.cell 1,h.free 1,h.cell 2,h.free 2,h.cell 3,h.free 3,h.cell 4,h.free 4⟩
theorem ag.c6 {x0 x1 x2 x3 x4 x5:Value}(h:ag w b t [x0,x1,x2,x3,x4,x5]):w.cell? ⟨b,0,none⟩=some x0/\w.cell? ⟨b,1,none⟩=some x1/\w.cell? ⟨b,2,none⟩=some x2/\w.cell? ⟨b,3,none⟩=some x3/\w.cell? ⟨b,4,none⟩=some x4/\w.cell? ⟨b,5,none⟩=some x5:=⟨h.cell 0,h.cell 1,h.cell 2,h.cell 3,h.cell 4,h.cell 5⟩
theorem ag.g6 {x0 x1 x2 x3 x4 x5:Value}(h:ag w b t [x0,x1,x2,x3,x4,x5]):w.cell? ⟨b,0,none⟩=some x0/\w.frozen? ⟨b,0,none⟩=false/\w.cell? ⟨b,1,none⟩=some x1/\w.frozen? ⟨b,1,none⟩=false/\w.cell? ⟨b,2,none⟩=some x2/\w.frozen? ⟨b,2,none⟩=false/\w.cell? ⟨b,3,none⟩=some x3/\w.frozen? ⟨b,3,none⟩=false/\w.cell? ⟨b,4,none⟩=some x4/\w.frozen? ⟨b,4,none⟩=false/\w.cell? ⟨b,5,none⟩=some x5/\w.frozen? ⟨b,5,none⟩=false:=⟨h.cell 0,h.free 0,h.cell 1,h.free 1,h.cell 2,h.free 2,h.cell 3,h.free 3,h.cell 4,h.free 4,h.cell 5,h.free 5⟩
theorem ag.so {cs:List Value}(h:ag w b t cs)(p i:Nat)(hne:p≠b)(v:Value):ag (w.setCell ⟨p,i,none⟩ v) b t cs:=h.aqG ⟨p,i,none⟩ hne v
theorem _root_.Go.RowKit.Below.sc {n:Nat}{w w':World}(h:Below n w w')(p i:Nat)(hp:n<=p)(v:Value):Below n w (w'.setCell ⟨p,i,none⟩ v):=h.setCell hp v
end
theorem grownBy_set {w:World}{a:Addr}(b:Nat)(hb:a.block=b)(v:Value):w.grownBy (w.setCell a v) (some b):=
 ⟨rfl,rfl,rfl,by simp[World.setCell],λk _ hk=>Below.heap_setCell _ _ _ _ (λe=>hk (by rw[e,hb]))⟩
theorem grownBy_trans {a b c:World}{r:Option Nat}(h:a.grownBy b r)(k:b.grownBy c r):a.grownBy c r:=
 ⟨k.os.trans h.os,k.tape.trans h.tape,k.output.trans h.output,Nat.le_trans h.size k.size,λi hi hn=>(k.block i (Nat.lt_of_lt_of_le hi h.size) hn).trans (h.block i hi hn)⟩
theorem grownBy_refl (w:World)(r:Option Nat):w.grownBy w r:=⟨rfl,rfl,rfl,Nat.le_refl _,λ_ _ _=>rfl⟩
theorem eX {w w':World}{r:Option Nat}(hg:w.grownBy w' r){a:Addr}{v:Value}(h:w.cell? a=some v)(hne:some a.block≠r):w'.cell? a=some v:=hg.cell h hne
def u64 (n:Nat):Value:=.int .u64 (n:Int)
def cS (w:World)(b o n v:Nat):Prop:=∀j,j<n->w.cell? ⟨b,o+j,none⟩=some (.int .u64 (dg v j:Int))
theorem cS.less {w:World}{b o n m v:Nat}(h:cS w b o n v)(hm:m<=n):cS w b o m v:=λj hj=>h j zo
theorem cS.below {w w':World}{b o n v:Nat}(h:cS w b o n v)(hb:Bw w w'):cS w' b o n v:=λj hj=>cell_later hb (h j hj)
theorem cS.grown {w w':World}{b o n v:Nat}{r:Option Nat}(h:cS w b o n v)(hb:w.grownBy w' r)(hne:some b≠r):cS w' b o n v:=λj hj=>hb.cell (h j hj) hne
def aS (n:Nat)(f:Nat->Nat):List Value:=(List.range n).map λj=>.int .u64 (f j:Int)
theorem uI (n:Nat)(f:Nat->Nat):(aS n f).length=n:=by simp[aS]
theorem fe (n:Nat)(f:Nat->Nat)(j:Nat)(h:j<n):(aS n f)[j]?=some (.int .u64 (f j:Int)):=by simp[aS,List.getElem?_range h]
theorem iU {n:Nat}{f g:Nat->Nat}(h:∀j,j<n->f j=g j):aS n f=aS n g:=by unfold aS;refine List.map_congr_left λj hj=>?_;rw[h j (by simpa using hj)]
theorem yJ (n:Nat)(f:Nat->Nat)(i x:Nat):(aS n f).set i (.int .u64 (x:Int))=aS n (λj=>if j=i then x else f j):=by
 apply List.ext_getElem?;intro j;rw[List.getElem?_set,uI];by_cases h:j<n
 . rw[fe _ _ _ h,fe _ _ _ h];by_cases e:i=j
   . subst e;simp[h]
   . simp[e,Ne.symm e]
 . by_cases e:i=j
   . subst e;simp[aS,h]
   . simp[e,aS,h]
end Go.Proofs.YtoopepmmepmfnaaGreatDoor
