/- Small facts on worlds that the walks share. -/
import Derived.Test.YtdaadlblknpipaaGreatDoorProg
import Derived.Test.YtdaadlblknpipaaGreatDoorZ1
import Derived.WalkKit
import Derived.WalkSpells
import Derived.WalkLawsBesides
import Derived.Lib.Hide
import Derived.BigQuiet
import Derived.Deep.QuietTactic
import Derived.Deep.LoopGhost
import Derived.Deep.DeepFit
set_option linter.unusedVariables false
set_option linter.unusedSimpArgs false
set_option maxRecDepth 100000
set_option maxHeartbeats 16000000
namespace Go.Proofs.YtdaadlblknpipaaGreatDoor
open Go.RowKit
theorem zo {p:Prop}(h:p:=by omega):p:=h
theorem zd {p:Prop}(h:p:=by decide):p:=h
theorem zm {p:Prop}(h:p:=by simp):p:=h
theorem zj {p:Prop}(h:p:=by simp<;>omega):p:=h
theorem zp {p:Prop}(h:p:=by(dsimp only;omega)):p:=h
theorem zi {p:Prop}(h:p:=by(simp;omega)):p:=h
theorem zk {p:Prop}(h:p:=by kernel_rfl):p:=h
theorem zf {p:Prop}(h:p:=by(first| (dsimp only;omega) | (simp<;>omega))):p:=h
theorem zg {p:Prop}(h:p:=by(first| (dsimp only;omega) | (show _≠_;omega) | (simp<;>omega))):p:=h
theorem ZS {p:Prop}(h:p:=by(have:=Hb.out.size;omega)):p:=h
theorem zt {p:Prop}(h:p:=by(have:=Hb.out.size;simp<;>omega)):p:=h
theorem zx {p:Prop}(h:p:=by(simp[maxLen];omega)):p:=h
theorem zy {p:Prop}(h:p:=by(simp[Value.oneCell'])):p:=h
theorem zc {p:Prop}(h:p:=by(intro o c a v w;cases o.dst<;>exact id)):p:=h
theorem zb {p:Prop}(h:p:=by(repeat first|exact Hb.out| (refine Below.setCell ?_ (by have:=Hb.out.size;first| (dsimp only;omega) | (show _<=_;omega) | (simp<;>omega)) _) | (refine Below.alloc ?_ (by have:=Hb.out.size;simp<;>omega) _) |refine Below.drew ?_)):p:=h
theorem zl {w:World}{o:Obj}:Below w.heap.size w (w.alloc o):=(Below.refl _ _).alloc (Nat.le_refl _) _
abbrev Bw (w:World):=Below w.heap.size w
def ak (w:World)(b:Nat)(t:TypeId)(cs:List Value):Prop:=w.heap[b]?=some (.cells cs.toArray t (0,0))
theorem ak.lt {w:World}{b:Nat}{t:TypeId}{cs:List Value}(h:ak w b t cs):b<w.heap.size:=lt_of_block h
theorem ak.cell {w:World}{b:Nat}{t:TypeId}{cs:List Value}(h:ak w b t cs)(j:Nat):w.cell? ⟨b,j,none⟩=cs[j]?:=by unfold ak at h;simp[World.cell?,h]
theorem ak.free {w:World}{b:Nat}{t:TypeId}{cs:List Value}(h:ak w b t cs)(j:Nat):w.frozen? ⟨b,j,none⟩=false:=by unfold ak at h;simp[World.frozen?,h]
theorem ak.set {w:World}{b:Nat}{t:TypeId}{cs:List Value}(h:ak w b t cs)(j:Nat)(v:Value):ak (w.setCell ⟨b,j,none⟩ v) b t (cs.set j v):=by unfold ak at*;simp[World.setCell,Array.getElem?_modify,h]
theorem ak.api {w:World}{b:Nat}{t:TypeId}{cs:List Value}(h:ak w b t cs)(a:Addr)(hne:a.block≠b)(v:Value):ak (w.setCell a v) b t cs:=by unfold ak at*;rw[Below.heap_setCell _ _ _ _ (λe=>hne e.symm)];exact h
theorem ak.drew {w:World}{b:Nat}{t:TypeId}{cs:List Value}(h:ak w b t cs):ak w.drew b t cs:=h
theorem ak.alloc {w:World}{b:Nat}{t:TypeId}{cs:List Value}(h:ak w b t cs)(o:Obj):ak (w.alloc o) b t cs:=by have:=h.lt;unfold ak at*;rw[Below.heap_alloc _ _ _ this];exact h
theorem ak.new (w:World)(t:TypeId)(cs:List Value):ak (w.alloc (.cells cs.toArray t)) w.heap.size t cs:=heap_alloc_new w _
theorem ak.below {w w':World}{b:Nat}{t:TypeId}{cs:List Value}(h:ak w b t cs)(hb:Bw w w'):ak w' b t cs:=by have:=h.lt;unfold ak at*;rw[hb.block b this];exact h
theorem ak.grown {w w':World}{b:Nat}{t:TypeId}{cs:List Value}{r:Option Nat}(h:ak w b t cs)(hb:w.grownBy w' r)(hne:some b≠r):ak w' b t cs:=by have:=h.lt;unfold ak at*;rw[hb.block b this hne];exact h
theorem kB {w w':World}{b:Nat}{t:TypeId}{cs:List Value}(h:RowKit.Hid (ak w b t cs))(k:Bw w w'):RowKit.Hid (ak w' b t cs):=h.out.below k
theorem dP {w:World}{t:TypeId}{cs:List Value}:ak (w.alloc (.cells cs.toArray t)) w.heap.size t cs/\Bw w (w.alloc (.cells cs.toArray t)):=⟨ak.new _ _ _,zl⟩
theorem dQ {w:World}{t:TypeId}{cs:List Value}:ak (w.alloc (.cells cs.toArray t)).drew w.heap.size t cs/\Bw w (w.alloc (.cells cs.toArray t)).drew:=⟨ak.new w t cs,zl.drew⟩
theorem ah {p:Prop}(h:p):RowKit.Hid p:=Lib.hid h
theorem aB {α:Sort _}(a:α):∃x,a=x:=⟨_,rfl⟩
theorem iA (a:Bool×List UInt8×Int):∃s m e,a=(s,m,e):=⟨_,_,_,rfl⟩
theorem aL {a b:Prop}(m:a)(n:b):RowKit.Hid a/\RowKit.Hid b:=⟨ah m,ah n⟩
theorem cL {a b c:Prop}(m:a)(n:b)(o:c):RowKit.Hid a/\RowKit.Hid b/\RowKit.Hid c:=⟨ah m,ah n,ah o⟩
theorem dW {a b c d:Prop}(m:a)(n:b)(o:c)(p:d):RowKit.Hid a/\RowKit.Hid b/\RowKit.Hid c/\RowKit.Hid d:=⟨ah m,ah n,ah o,ah p⟩
theorem fg {a b c d e:Prop}(m:a)(n:b)(o:c)(p:d)(q:e):RowKit.Hid a/\RowKit.Hid b/\RowKit.Hid c/\RowKit.Hid d/\RowKit.Hid e:=⟨ah m,ah n,ah o,ah p,ah q⟩
theorem gN {a b c d e f:Prop}(m:a)(n:b)(o:c)(p:d)(q:e)(r:f):RowKit.Hid a/\RowKit.Hid b/\RowKit.Hid c/\RowKit.Hid d/\RowKit.Hid e/\RowKit.Hid f:=⟨ah m,ah n,ah o,ah p,ah q,ah r⟩
theorem pR {a b c d e f g:Prop}(m:a)(n:b)(o:c)(p:d)(q:e)(r:f)(s:g):RowKit.Hid a/\RowKit.Hid b/\RowKit.Hid c/\RowKit.Hid d/\RowKit.Hid e/\RowKit.Hid f/\RowKit.Hid g:=⟨ah m,ah n,ah o,ah p,ah q,ah r,ah s⟩
theorem nJ {a b c d e f g h:Prop}(m:a)(n:b)(o:c)(p:d)(q:e)(r:f)(s:g)(t:h):RowKit.Hid a/\RowKit.Hid b/\RowKit.Hid c/\RowKit.Hid d/\RowKit.Hid e/\RowKit.Hid f/\RowKit.Hid g/\RowKit.Hid h:=⟨ah m,ah n,ah o,ah p,ah q,ah r,ah s,ah t⟩
theorem Ig {a b c d e f g h i:Prop}(m:a)(n:b)(o:c)(p:d)(q:e)(r:f)(s:g)(t:h)(u:i):RowKit.Hid a/\RowKit.Hid b/\RowKit.Hid c/\RowKit.Hid d/\RowKit.Hid e/\RowKit.Hid f/\RowKit.Hid g/\RowKit.Hid h/\RowKit.Hid i:=⟨ah m,ah n,ah o,ah p,ah q,ah r,ah s,ah t,ah u⟩
theorem xY {a b c d e f g h i j:Prop}(m:a)(n:b)(o:c)(p:d)(q:e)(r:f)(s:g)(t:h)(u:i)(v:j):RowKit.Hid a/\RowKit.Hid b/\RowKit.Hid c/\RowKit.Hid d/\RowKit.Hid e/\RowKit.Hid f/\RowKit.Hid g/\RowKit.Hid h/\RowKit.Hid i/\RowKit.Hid j:=⟨ah m,ah n,ah o,ah p,ah q,ah r,ah s,ah t,ah u,ah v⟩
theorem aht {a b c d e f g h i j k:Prop}(m:a)(n:b)(o:c)(p:d)(q:e)(r:f)(s:g)(t:h)(u:i)(v:j)(w:k):RowKit.Hid a/\RowKit.Hid b/\RowKit.Hid c/\RowKit.Hid d/\RowKit.Hid e/\RowKit.Hid f/\RowKit.Hid g/\RowKit.Hid h/\RowKit.Hid i/\RowKit.Hid j/\RowKit.Hid k:=⟨ah m,ah n,ah o,ah p,ah q,ah r,ah s,ah t,ah u,ah v,ah w⟩
theorem fR {a b c d e f g h i j k l:Prop}(m:a)(n:b)(o:c)(p:d)(q:e)(r:f)(s:g)(t:h)(u:i)(v:j)(w:k)(x:l):RowKit.Hid a/\RowKit.Hid b/\RowKit.Hid c/\RowKit.Hid d/\RowKit.Hid e/\RowKit.Hid f/\RowKit.Hid g/\RowKit.Hid h/\RowKit.Hid i/\RowKit.Hid j/\RowKit.Hid k/\RowKit.Hid l:=⟨ah m,ah n,ah o,ah p,ah q,ah r,ah s,ah t,ah u,ah v,ah w,ah x⟩
section
variable {w:World} {b:Nat} {t:TypeId} {x0 x1 x2 x3:Value}
theorem ak.c1 (h:ak w b t [x0]):w.cell? ⟨b,0,none⟩=some x0:=h.cell 0
theorem ak.c2 (h:ak w b t [x0,x1]):w.cell? ⟨b,0,none⟩=some x0/\w.cell? ⟨b,1,none⟩=some x1:=⟨h.cell 0,h.cell 1⟩
theorem ak.c3 (h:ak w b t [x0,x1,x2]):w.cell? ⟨b,0,none⟩=some x0/\w.cell? ⟨b,1,none⟩=some x1/\w.cell? ⟨b,2,none⟩=some x2:=⟨h.cell 0,h.cell 1,h.cell 2⟩
theorem ak.c4 (h:ak w b t [x0,x1,x2,x3]):w.cell? ⟨b,0,none⟩=some x0/\w.cell? ⟨b,1,none⟩=some x1/\w.cell? ⟨b,2,none⟩=some x2/\w.cell? ⟨b,3,none⟩=some x3:=⟨h.cell 0,h.cell 1,h.cell 2,h.cell 3⟩
theorem ak.g2 (h:ak w b t [x0,x1]):w.cell? ⟨b,0,none⟩=some x0/\w.frozen? ⟨b,0,none⟩=false/\w.cell? ⟨b,1,none⟩=some x1/\w.frozen? ⟨b,1,none⟩=false:=⟨h.cell 0,h.free 0,h.cell 1,h.free 1⟩
theorem ak.g3 (h:ak w b t [x0,x1,x2]):w.cell? ⟨b,0,none⟩=some x0/\w.frozen? ⟨b,0,none⟩=false/\w.cell? ⟨b,1,none⟩=some x1/\w.frozen? ⟨b,1,none⟩=false/\w.cell? ⟨b,2,none⟩=some x2/\w.frozen? ⟨b,2,none⟩=false:=
 ⟨h.cell 0,h.free 0,h.cell 1,h.free 1,h.cell 2,h.free 2⟩
theorem ak.g4 (h:ak w b t [x0,x1,x2,x3]):w.cell? ⟨b,0,none⟩=some x0/\w.frozen? ⟨b,0,none⟩=false/\w.cell? ⟨b,1,none⟩=some x1/\w.frozen? ⟨b,1,none⟩=false/\w.cell? ⟨b,2,none⟩=some x2/\w.frozen? ⟨b,2,none⟩=false/\w.cell? ⟨b,3,none⟩=some x3/\w.frozen? ⟨b,3,none⟩=false:=
 ⟨h.cell 0,h.free 0,h.cell 1,h.free 1,h.cell 2,h.free 2,h.cell 3,h.free 3⟩
theorem ak.c5 {x0 x1 x2 x3 x4:Value}(h:ak w b t [x0,x1,x2,x3,x4]):w.cell? ⟨b,0,none⟩=some x0/\w.cell? ⟨b,1,none⟩=some x1/\w.cell? ⟨b,2,none⟩=some x2/\w.cell? ⟨b,3,none⟩=some x3/\w.cell? ⟨b,4,none⟩=some x4:=⟨h.cell 0,h.cell 1,h.cell 2,h.cell 3,h.cell 4⟩
theorem ak.g5 {x0 x1 x2 x3 x4:Value}(h:ak w b t [x0,x1,x2,x3,x4]):w.cell? ⟨b,0,none⟩=some x0/\w.frozen? ⟨b,0,none⟩=false/\w.cell? ⟨b,1,none⟩=some x1/\w.frozen? ⟨b,1,none⟩=false/\w.cell? ⟨b,2,none⟩=some x2/\w.frozen? ⟨b,2,none⟩=false/\w.cell? ⟨b,3,none⟩=some x3/\w.frozen? ⟨b,3,none⟩=false/\w.cell? ⟨b,4,none⟩=some x4/\w.frozen? ⟨b,4,none⟩=false:=⟨h.cell 0,h.free 0,h.cell 1,h.free 1,h.cell 2,h.free 2,h.cell 3,h.free 3,h.cell 4,h.free 4⟩
theorem ak.c6 {x0 x1 x2 x3 x4 x5:Value}(h:ak w b t [x0,x1,x2,x3,x4,x5]):w.cell? ⟨b,0,none⟩=some x0/\w.cell? ⟨b,1,none⟩=some x1/\w.cell? ⟨b,2,none⟩=some x2/\w.cell? ⟨b,3,none⟩=some x3/\w.cell? ⟨b,4,none⟩=some x4/\w.cell? ⟨b,5,none⟩=some x5:=⟨h.cell 0,h.cell 1,h.cell 2,h.cell 3,h.cell 4,h.cell 5⟩
theorem ak.so {cs:List Value}(h:ak w b t cs)(p i:Nat)(hne:p≠b)(v:Value):ak (w.setCell ⟨p,i,none⟩ v) b t cs:=h.api ⟨p,i,none⟩ hne v
theorem _root_.Go.RowKit.Below.sc {n:Nat}{w w':World}(h:Below n w w')(p i:Nat)(hp:n<=p)(v:Value):Below n w (w'.setCell ⟨p,i,none⟩ v):=h.setCell hp v
end
theorem grownBy_set {w:World}{a:Addr}(b:Nat)(hb:a.block=b)(v:Value):w.grownBy (w.setCell a v) (some b):=
 ⟨rfl,rfl,rfl,by simp[World.setCell],λk _ hk=>Below.heap_setCell _ _ _ _ (λe=>hk (by rw[e,hb]))⟩
theorem grownBy_trans {a b c:World}{r:Option Nat}(h:a.grownBy b r)(k:b.grownBy c r):a.grownBy c r:=
 ⟨k.os.trans h.os,k.tape.trans h.tape,k.output.trans h.output,Nat.le_trans h.size k.size,λi hi hn=>(k.block i (Nat.lt_of_lt_of_le hi h.size) hn).trans (h.block i hi hn)⟩
theorem grownBy_refl (w:World)(r:Option Nat):w.grownBy w r:=⟨rfl,rfl,rfl,Nat.le_refl _,λ_ _ _=>rfl⟩
theorem bE {w w':World}{r:Option Nat}(hg:w.grownBy w' r){a:Addr}{v:Value}(h:w.cell? a=some v)(hne:some a.block≠r):w'.cell? a=some v:=hg.cell h hne
def u64 (n:Nat):Value:=.int .u64 (n:Int)
def dS (w:World)(b o n v:Nat):Prop:=∀j,j<n->w.cell? ⟨b,o+j,none⟩=some (.int .u64 (dg v j:Int))
theorem dS.less {w:World}{b o n m v:Nat}(h:dS w b o n v)(hm:m<=n):dS w b o m v:=λj hj=>h j zo
theorem dS.below {w w':World}{b o n v:Nat}(h:dS w b o n v)(hb:Bw w w'):dS w' b o n v:=λj hj=>cell_later hb (h j hj)
theorem dS.grown {w w':World}{b o n v:Nat}{r:Option Nat}(h:dS w b o n v)(hb:w.grownBy w' r)(hne:some b≠r):dS w' b o n v:=λj hj=>hb.cell (h j hj) hne
def bB (n:Nat)(f:Nat->Nat):List Value:=(List.range n).map λj=>.int .u64 (f j:Int)
theorem wn (n:Nat)(f:Nat->Nat):(bB n f).length=n:=by simp[bB]
theorem gD (n:Nat)(f:Nat->Nat)(j:Nat)(h:j<n):(bB n f)[j]?=some (.int .u64 (f j:Int)):=by simp[bB,List.getElem?_range h]
theorem jN {n:Nat}{f g:Nat->Nat}(h:∀j,j<n->f j=g j):bB n f=bB n g:=by unfold bB;refine List.map_congr_left λj hj=>?_;rw[h j (by simpa using hj)]
theorem AJ (n:Nat)(f:Nat->Nat)(i x:Nat):(bB n f).set i (.int .u64 (x:Int))=bB n (λj=>if j=i then x else f j):=by
 apply List.ext_getElem?;intro j;rw[List.getElem?_set,wn];by_cases h:j<n
 . rw[gD _ _ _ h,gD _ _ _ h];by_cases e:i=j
   . subst e;simp[h]
   . simp[e,Ne.symm e]
 . by_cases e:i=j
   . subst e;simp[bB,h]
   . simp[e,bB,h]
end Go.Proofs.YtdaadlblknpipaaGreatDoor
