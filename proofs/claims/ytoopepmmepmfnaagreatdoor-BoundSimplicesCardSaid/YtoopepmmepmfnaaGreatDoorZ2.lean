/- Small facts on worlds that the walks share. -/
import Derived.Test.YtoopepmmepmfnaaGreatDoorProg
import Derived.Test.YtoopepmmepmfnaaGreatDoorZ1
import Derived.WalkKit
import Derived.WalkSpells
import Derived.WalkLawsBesides
import Derived.Lib.Hide
import Derived.BigQuiet
import Derived.Deep.QuietTactic
import Derived.Deep.LoopGhost
import Derived.Deep.DeepFit
set_option linter.unusedVariables false
set_option linter.unusedSimpArgs false
set_option maxRecDepth 100000
set_option maxHeartbeats 16000000
namespace Go.Proofs.YtoopepmmepmfnaaGreatDoor
open Go.RowKit
theorem zo {p:Prop}(h:p:=by omega):p:=h
theorem zd {p:Prop}(h:p:=by decide):p:=h
theorem zm {p:Prop}(h:p:=by simp):p:=h
theorem zj {p:Prop}(h:p:=by simp<;>omega):p:=h
theorem zp {p:Prop}(h:p:=by(dsimp only;omega)):p:=h
theorem zi {p:Prop}(h:p:=by(simp;omega)):p:=h
theorem zk {p:Prop}(h:p:=by kernel_rfl):p:=h
theorem zf {p:Prop}(h:p:=by(first| (dsimp only;omega) | (simp<;>omega))):p:=h
theorem zg {p:Prop}(h:p:=by(first| (dsimp only;omega) | (show _≠_;omega) | (simp<;>omega))):p:=h
theorem ZS {p:Prop}(h:p:=by(have:=Hb.out.size;omega)):p:=h
theorem zt {p:Prop}(h:p:=by(have:=Hb.out.size;simp<;>omega)):p:=h
theorem zx {p:Prop}(h:p:=by(simp[maxLen];omega)):p:=h
theorem zy {p:Prop}(h:p:=by(simp[Value.oneCell'])):p:=h
theorem zc {p:Prop}(h:p:=by(intro o c a v w;cases o.dst<;>exact id)):p:=h
theorem zb {p:Prop}(h:p:=by(repeat first|exact Hb.out| (refine Below.setCell ?_ (by have:=Hb.out.size;first| (dsimp only;omega) | (show _<=_;omega) | (simp<;>omega)) _) | (refine Below.alloc ?_ (by have:=Hb.out.size;simp<;>omega) _) |refine Below.drew ?_)):p:=h
theorem zl {w:World}{o:Obj}:Below w.heap.size w (w.alloc o):=(Below.refl _ _).alloc (Nat.le_refl _) _
abbrev Bw (w:World):=Below w.heap.size w
def ar (w:World)(b:Nat)(t:TypeId)(cs:List Value):Prop:=w.heap[b]?=some (.cells cs.toArray t (0,0))
theorem ar.lt {w:World}{b:Nat}{t:TypeId}{cs:List Value}(h:ar w b t cs):b<w.heap.size:=lt_of_block h
theorem ar.cell {w:World}{b:Nat}{t:TypeId}{cs:List Value}(h:ar w b t cs)(j:Nat):w.cell? ⟨b,j,none⟩=cs[j]?:=by unfold ar at h;simp[World.cell?,h]
theorem ar.free {w:World}{b:Nat}{t:TypeId}{cs:List Value}(h:ar w b t cs)(j:Nat):w.frozen? ⟨b,j,none⟩=false:=by unfold ar at h;simp[World.frozen?,h]
theorem ar.set {w:World}{b:Nat}{t:TypeId}{cs:List Value}(h:ar w b t cs)(j:Nat)(v:Value):ar (w.setCell ⟨b,j,none⟩ v) b t (cs.set j v):=by unfold ar at*;simp[World.setCell,Array.getElem?_modify,h]
theorem ar.aw3 {w:World}{b:Nat}{t:TypeId}{cs:List Value}(h:ar w b t cs)(a:Addr)(hne:a.block≠b)(v:Value):ar (w.setCell a v) b t cs:=by unfold ar at*;rw[Below.heap_setCell _ _ _ _ (λe=>hne e.symm)];exact h
theorem ar.drew {w:World}{b:Nat}{t:TypeId}{cs:List Value}(h:ar w b t cs):ar w.drew b t cs:=h
theorem ar.alloc {w:World}{b:Nat}{t:TypeId}{cs:List Value}(h:ar w b t cs)(o:Obj):ar (w.alloc o) b t cs:=by have:=h.lt;unfold ar at*;rw[Below.heap_alloc _ _ _ this];exact h
theorem ar.new (w:World)(t:TypeId)(cs:List Value):ar (w.alloc (.cells cs.toArray t)) w.heap.size t cs:=heap_alloc_new w _
theorem ar.below {w w':World}{b:Nat}{t:TypeId}{cs:List Value}(h:ar w b t cs)(hb:Bw w w'):ar w' b t cs:=by have:=h.lt;unfold ar at*;rw[hb.block b this];exact h
theorem ar.grown {w w':World}{b:Nat}{t:TypeId}{cs:List Value}{r:Option Nat}(h:ar w b t cs)(hb:w.grownBy w' r)(hne:some b≠r):ar w' b t cs:=by have:=h.lt;unfold ar at*;rw[hb.block b this hne];exact h
theorem kB {w w':World}{b:Nat}{t:TypeId}{cs:List Value}(h:RowKit.Hid (ar w b t cs))(k:Bw w w'):RowKit.Hid (ar w' b t cs):=h.out.below k
theorem fe {w:World}{t:TypeId}{cs:List Value}:ar (w.alloc (.cells cs.toArray t)) w.heap.size t cs/\Bw w (w.alloc (.cells cs.toArray t)):=⟨ar.new _ _ _,zl⟩
theorem fg {w:World}{t:TypeId}{cs:List Value}:ar (w.alloc (.cells cs.toArray t)).drew w.heap.size t cs/\Bw w (w.alloc (.cells cs.toArray t)).drew:=⟨ar.new w t cs,zl.drew⟩
theorem ai {p:Prop}(h:p):RowKit.Hid p:=Lib.hid h
theorem aG {α:Sort _}(a:α):∃x,a=x:=⟨_,rfl⟩
theorem oW (a:Bool×List UInt8×Int):∃s m e,a=(s,m,e):=⟨_,_,_,rfl⟩
theorem aO {a b:Prop}(m:a)(n:b):RowKit.Hid a/\RowKit.Hid b:=⟨ai m,ai n⟩
theorem cL {a b c:Prop}(m:a)(n:b)(o:c):RowKit.Hid a/\RowKit.Hid b/\RowKit.Hid c:=⟨ai m,ai n,ai o⟩
theorem dx {a b c d:Prop}(m:a)(n:b)(o:c)(p:d):RowKit.Hid a/\RowKit.Hid b/\RowKit.Hid c/\RowKit.Hid d:=⟨ai m,ai n,ai o,ai p⟩
theorem gJ {a b c d e:Prop}(m:a)(n:b)(o:c)(p:d)(q:e):RowKit.Hid a/\RowKit.Hid b/\RowKit.Hid c/\RowKit.Hid d/\RowKit.Hid e:=⟨ai m,ai n,ai o,ai p,ai q⟩
theorem gW {a b c d e f:Prop}(m:a)(n:b)(o:c)(p:d)(q:e)(r:f):RowKit.Hid a/\RowKit.Hid b/\RowKit.Hid c/\RowKit.Hid d/\RowKit.Hid e/\RowKit.Hid f:=⟨ai m,ai n,ai o,ai p,ai q,ai r⟩
theorem jT {a b c d e f g:Prop}(m:a)(n:b)(o:c)(p:d)(q:e)(r:f)(s:g):RowKit.Hid a/\RowKit.Hid b/\RowKit.Hid c/\RowKit.Hid d/\RowKit.Hid e/\RowKit.Hid f/\RowKit.Hid g:=⟨ai m,ai n,ai o,ai p,ai q,ai r,ai s⟩
theorem nZ {a b c d e f g h:Prop}(m:a)(n:b)(o:c)(p:d)(q:e)(r:f)(s:g)(t:h):RowKit.Hid a/\RowKit.Hid b/\RowKit.Hid c/\RowKit.Hid d/\RowKit.Hid e/\RowKit.Hid f/\RowKit.Hid g/\RowKit.Hid h:=⟨ai m,ai n,ai o,ai p,ai q,ai r,ai s,ai t⟩
theorem GV {a b c d e f g h i:Prop}(m:a)(n:b)(o:c)(p:d)(q:e)(r:f)(s:g)(t:h)(u:i):RowKit.Hid a/\RowKit.Hid b/\RowKit.Hid c/\RowKit.Hid d/\RowKit.Hid e/\RowKit.Hid f/\RowKit.Hid g/\RowKit.Hid h/\RowKit.Hid i:=⟨ai m,ai n,ai o,ai p,ai q,ai r,ai s,ai t,ai u⟩
theorem tM {a b c d e f g h i j:Prop}(m:a)(n:b)(o:c)(p:d)(q:e)(r:f)(s:g)(t:h)(u:i)(v:j):RowKit.Hid a/\RowKit.Hid b/\RowKit.Hid c/\RowKit.Hid d/\RowKit.Hid e/\RowKit.Hid f/\RowKit.Hid g/\RowKit.Hid h/\RowKit.Hid i/\RowKit.Hid j:=⟨ai m,ai n,ai o,ai p,ai q,ai r,ai s,ai t,ai u,ai v⟩
theorem gB {a b c d e f g h i j k l:Prop}(m:a)(n:b)(o:c)(p:d)(q:e)(r:f)(s:g)(t:h)(u:i)(v:j)(w:k)(x:l):RowKit.Hid a/\RowKit.Hid b/\RowKit.Hid c/\RowKit.Hid d/\RowKit.Hid e/\RowKit.Hid f/\RowKit.Hid g/\RowKit.Hid h/\RowKit.Hid i/\RowKit.Hid j/\RowKit.Hid k/\RowKit.Hid l:=⟨ai m,ai n,ai o,ai p,ai q,ai r,ai s,ai t,ai u,ai v,ai w,ai x⟩
section
variable {w:World} {b:Nat} {t:TypeId} {x0 x1 x2 x3:Value}
theorem ar.c1 (h:ar w b t [x0]):w.cell? ⟨b,0,none⟩=some x0:=h.cell 0
theorem ar.c2 (h:ar w b t [x0,x1]):w.cell? ⟨b,0,none⟩=some x0/\w.cell? ⟨b,1,none⟩=some x1:=⟨h.cell 0,h.cell 1⟩
theorem ar.c3 (h:ar w b t [x0,x1,x2]):w.cell? ⟨b,0,none⟩=some x0/\w.cell? ⟨b,1,none⟩=some x1/\w.cell? ⟨b,2,none⟩=some x2:=⟨h.cell 0,h.cell 1,h.cell 2⟩
theorem ar.c4 (h:ar w b t [x0,x1,x2,x3]):w.cell? ⟨b,0,none⟩=some x0/\w.cell? ⟨b,1,none⟩=some x1/\w.cell? ⟨b,2,none⟩=some x2/\w.cell? ⟨b,3,none⟩=some x3:=⟨h.cell 0,h.cell 1,h.cell 2,h.cell 3⟩
theorem ar.g2 (h:ar w b t [x0,x1]):w.cell? ⟨b,0,none⟩=some x0/\w.frozen? ⟨b,0,none⟩=false/\w.cell? ⟨b,1,none⟩=some x1/\w.frozen? ⟨b,1,none⟩=false:=⟨h.cell 0,h.free 0,h.cell 1,h.free 1⟩
theorem ar.g3 (h:ar w b t [x0,x1,x2]):w.cell? ⟨b,0,none⟩=some x0/\w.frozen? ⟨b,0,none⟩=false/\w.cell? ⟨b,1,none⟩=some x1/\w.frozen? ⟨b,1,none⟩=false/\w.cell? ⟨b,2,none⟩=some x2/\w.frozen? ⟨b,2,none⟩=false:=
 ⟨h.cell 0,h.free 0,h.cell 1,h.free 1,h.cell 2,h.free 2⟩
theorem ar.g4 (h:ar w b t [x0,x1,x2,x3]):w.cell? ⟨b,0,none⟩=some x0/\w.frozen? ⟨b,0,none⟩=false/\w.cell? ⟨b,1,none⟩=some x1/\w.frozen? ⟨b,1,none⟩=false/\w.cell? ⟨b,2,none⟩=some x2/\w.frozen? ⟨b,2,none⟩=false/\w.cell? ⟨b,3,none⟩=some x3/\w.frozen? ⟨b,3,none⟩=false:=
 ⟨h.cell 0,h.free 0,h.cell 1,h.free 1,h.cell 2,h.free 2,h.cell 3,h.free 3⟩
theorem ar.c5 {x0 x1 x2 x3 x4:Value}(h:ar w b t [x0,x1,x2,x3,x4]):w.cell? ⟨b,0,none⟩=some x0/\w.cell? ⟨b,1,none⟩=some x1/\w.cell? ⟨b,2,none⟩=some x2/\w.cell? ⟨b,3,none⟩=some x3/\w.cell? ⟨b,4,none⟩=some x4:=⟨h.cell 0,h.cell 1,h.cell 2,h.cell 3,h.cell 4⟩
theorem ar.g5 {x0 x1 x2 x3 x4:Value}(h:ar w b t [x0,x1,x2,x3,x4]):w.cell? ⟨b,0,none⟩=some x0/\w.frozen? ⟨b,0,none⟩=false/\w.cell? ⟨b,1,none⟩=some x1/\w.frozen? ⟨b,1,none⟩=false/\w.cell? ⟨b,2,none⟩=some x2/\w.frozen? ⟨b,2,none⟩=false/\w.cell? ⟨b,3,none⟩=some x3/\w.frozen? ⟨b,3,none⟩=false/\w.cell? ⟨b,4,none⟩=some x4/\w.frozen? ⟨b,4,none⟩=false:=⟨h.cell 0,h.free 0,h.cell 1,h.free 1,h.cell 2,h.free 2,h.cell 3,h.free 3,h.cell 4,h.free 4⟩
theorem ar.c6 {x0 x1 x2 x3 x4 x5:Value}(h:ar w b t [x0,x1,x2,x3,x4,x5]):w.cell? ⟨b,0,none⟩=some x0/\w.cell? ⟨b,1,none⟩=some x1/\w.cell? ⟨b,2,none⟩=some x2/\w.cell? ⟨b,3,none⟩=some x3/\w.cell? ⟨b,4,none⟩=some x4/\w.cell? ⟨b,5,none⟩=some x5:=⟨h.cell 0,h.cell 1,h.cell 2,h.cell 3,h.cell 4,h.cell 5⟩
theorem ar.g6 {x0 x1 x2 x3 x4 x5:Value}(h:ar w b t [x0,x1,x2,x3,x4,x5]):w.cell? ⟨b,0,none⟩=some x0/\w.frozen? ⟨b,0,none⟩=false/\w.cell? ⟨b,1,none⟩=some x1/\w.frozen? ⟨b,1,none⟩=false/\w.cell? ⟨b,2,none⟩=some x2/\w.frozen? ⟨b,2,none⟩=false/\w.cell? ⟨b,3,none⟩=some x3/\w.frozen? ⟨b,3,none⟩=false/\w.cell? ⟨b,4,none⟩=some x4/\w.frozen? ⟨b,4,none⟩=false/\w.cell? ⟨b,5,none⟩=some x5/\w.frozen? ⟨b,5,none⟩=false:=⟨h.cell 0,h.free 0,h.cell 1,h.free 1,h.cell 2,h.free 2,h.cell 3,h.free 3,h.cell 4,h.free 4,h.cell 5,h.free 5⟩
theorem ar.so {cs:List Value}(h:ar w b t cs)(p i:Nat)(hne:p≠b)(v:Value):ar (w.setCell ⟨p,i,none⟩ v) b t cs:=h.aw3 ⟨p,i,none⟩ hne v
theorem _root_.Go.RowKit.Below.sc {n:Nat}{w w':World}(h:Below n w w')(p i:Nat)(hp:n<=p)(v:Value):Below n w (w'.setCell ⟨p,i,none⟩ v):=h.setCell hp v
end
theorem grownBy_set {w:World}{a:Addr}(b:Nat)(hb:a.block=b)(v:Value):w.grownBy (w.setCell a v) (some b):=
 ⟨rfl,rfl,rfl,by simp[World.setCell],λk _ hk=>Below.heap_setCell _ _ _ _ (λe=>hk (by rw[e,hb]))⟩
theorem grownBy_trans {a b c:World}{r:Option Nat}(h:a.grownBy b r)(k:b.grownBy c r):a.grownBy c r:=
 ⟨k.os.trans h.os,k.tape.trans h.tape,k.output.trans h.output,Nat.le_trans h.size k.size,λi hi hn=>(k.block i (Nat.lt_of_lt_of_le hi h.size) hn).trans (h.block i hi hn)⟩
theorem grownBy_refl (w:World)(r:Option Nat):w.grownBy w r:=⟨rfl,rfl,rfl,Nat.le_refl _,λ_ _ _=>rfl⟩
theorem cV {w w':World}{r:Option Nat}(hg:w.grownBy w' r){a:Addr}{v:Value}(h:w.cell? a=some v)(hne:some a.block≠r):w'.cell? a=some v:=hg.cell h hne
def u64 (n:Nat):Value:=.int .u64 (n:Int)
def eF (w:World)(b o n v:Nat):Prop:=∀j,j<n->w.cell? ⟨b,o+j,none⟩=some (.int .u64 (dg v j:Int))
theorem eF.less {w:World}{b o n m v:Nat}(h:eF w b o n v)(hm:m<=n):eF w b o m v:=λj hj=>h j zo
theorem eF.below {w w':World}{b o n v:Nat}(h:eF w b o n v)(hb:Bw w w'):eF w' b o n v:=λj hj=>cell_later hb (h j hj)
theorem eF.grown {w w':World}{b o n v:Nat}{r:Option Nat}(h:eF w b o n v)(hb:w.grownBy w' r)(hne:some b≠r):eF w' b o n v:=λj hj=>hb.cell (h j hj) hne
def bQ (n:Nat)(f:Nat->Nat):List Value:=(List.range n).map λj=>.int .u64 (f j:Int)
theorem yw (n:Nat)(f:Nat->Nat):(bQ n f).length=n:=by simp[bQ]
theorem gX (n:Nat)(f:Nat->Nat)(j:Nat)(h:j<n):(bQ n f)[j]?=some (.int .u64 (f j:Int)):=by simp[bQ,List.getElem?_range h]
theorem kU {n:Nat}{f g:Nat->Nat}(h:∀j,j<n->f j=g j):bQ n f=bQ n g:=by unfold bQ;refine List.map_congr_left λj hj=>?_;rw[h j (by simpa using hj)]
theorem Dz (n:Nat)(f:Nat->Nat)(i x:Nat):(bQ n f).set i (.int .u64 (x:Int))=bQ n (λj=>if j=i then x else f j):=by
 apply List.ext_getElem?;intro j;rw[List.getElem?_set,yw];by_cases h:j<n
 . rw[gX _ _ _ h,gX _ _ _ h];by_cases e:i=j
   . subst e;simp[h]
   . simp[e,Ne.symm e]
 . by_cases e:i=j
   . subst e;simp[bQ,h]
   . simp[e,bQ,h]
def bs (l:List UInt8):ByteArray:=⟨l.toArray⟩
theorem aR {w w':World}{b:Nat}{t:TypeId}{x0 x1:Value}(h:RowKit.Hid (ar w b t [x0,x1]))(k:Bw w w'):RowKit.Hid (ar w' b t [x0,x1])/\w'.cell? ⟨b,0,none⟩=some x0/\w'.cell? ⟨b,1,none⟩=some x1:=And.intro (kB h k)<|ar.c2 (kB h k).out
theorem aQ {w w':World}{b:Nat}{t:TypeId}{x0 x1 x2:Value}(h:RowKit.Hid (ar w b t [x0,x1,x2]))(k:Bw w w'):RowKit.Hid (ar w' b t [x0,x1,x2])/\w'.cell? ⟨b,0,none⟩=some x0/\w'.cell? ⟨b,1,none⟩=some x1/\w'.cell? ⟨b,2,none⟩=some x2:=And.intro (kB h k)<|ar.c3 (kB h k).out
theorem dU {w w':World}{b:Nat}{t:TypeId}{x0 x1 x2 x3:Value}(h:RowKit.Hid (ar w b t [x0,x1,x2,x3]))(k:Bw w w'):RowKit.Hid (ar w' b t [x0,x1,x2,x3])/\w'.cell? ⟨b,0,none⟩=some x0/\w'.cell? ⟨b,1,none⟩=some x1/\w'.cell? ⟨b,2,none⟩=some x2/\w'.cell? ⟨b,3,none⟩=some x3:=And.intro (kB h k)<|ar.c4 (kB h k).out
theorem fU {w w':World}{b:Nat}{t:TypeId}{x0 x1 x2 x3 x4 x5:Value}(h:RowKit.Hid (ar w b t [x0,x1,x2,x3,x4,x5]))(k:Bw w w'):RowKit.Hid (ar w' b t [x0,x1,x2,x3,x4,x5])/\w'.cell? ⟨b,0,none⟩=some x0/\w'.cell? ⟨b,1,none⟩=some x1/\w'.cell? ⟨b,2,none⟩=some x2/\w'.cell? ⟨b,3,none⟩=some x3/\w'.cell? ⟨b,4,none⟩=some x4/\w'.cell? ⟨b,5,none⟩=some x5:=And.intro (kB h k)<|ar.c6 (kB h k).out
theorem bE {w w':World}{b:Nat}{t:TypeId}{x0 x1:Value}(h:RowKit.Hid (ar w b t [x0,x1]))(k:Bw w w'):RowKit.Hid (ar w' b t [x0,x1])/\w'.cell? ⟨b,0,none⟩=some x0/\w'.frozen? ⟨b,0,none⟩=false/\w'.cell? ⟨b,1,none⟩=some x1/\w'.frozen? ⟨b,1,none⟩=false:=And.intro (kB h k)<|ar.g2 (kB h k).out
theorem aN {w w':World}{b:Nat}{t:TypeId}{x0 x1 x2:Value}(h:RowKit.Hid (ar w b t [x0,x1,x2]))(k:Bw w w'):RowKit.Hid (ar w' b t [x0,x1,x2])/\w'.cell? ⟨b,0,none⟩=some x0/\w'.frozen? ⟨b,0,none⟩=false/\w'.cell? ⟨b,1,none⟩=some x1/\w'.frozen? ⟨b,1,none⟩=false/\w'.cell? ⟨b,2,none⟩=some x2/\w'.frozen? ⟨b,2,none⟩=false:=And.intro (kB h k)<|ar.g3 (kB h k).out
abbrev ah (l:List UInt8):Value:=.string (bs l)
abbrev af (x:Int):Value:=.int .i64 x
abbrev ag (x:Bool):Value:=.bool x
abbrev aC (w:World)(b o:Nat)(v:Value):Prop:=w.cell? ⟨b,o,none⟩=some v
end Go.Proofs.YtoopepmmepmfnaaGreatDoor
