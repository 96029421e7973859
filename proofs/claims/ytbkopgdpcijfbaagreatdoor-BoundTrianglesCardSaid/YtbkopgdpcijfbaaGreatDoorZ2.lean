/- Small facts on worlds that the walks share. -/
import Derived.Test.YtbkopgdpcijfbaaGreatDoorProg
import Derived.Test.YtbkopgdpcijfbaaGreatDoorZ1
import Derived.WalkKit
import Derived.WalkSpells
import Derived.WalkLawsBesides
import Derived.Lib.Hide
import Derived.BigQuiet
import Derived.Deep.QuietTactic
import Derived.Deep.LoopGhost
import Derived.Deep.DeepFit
set_option linter.all false
set_option maxRecDepth 100000
set_option maxHeartbeats 16000000
namespace Go.Proofs.YtbkopgdpcijfbaaGreatDoor
open Go.RowKit
def zo {p:Prop}(h:p:=by omega):p:=h
def zd {p:Prop}(h:p:=by decide):p:=h
def zm {p:Prop}(h:p:=by simp):p:=h
def zj {p:Prop}(h:p:=by simp<;>omega):p:=h
def zp {p:Prop}(h:p:=by(dsimp only;omega)):p:=h
def zi {p:Prop}(h:p:=by(simp;omega)):p:=h
def zk {p:Prop}(h:p:=by kernel_rfl):p:=h
def zf {p:Prop}(h:p:=by(first| (dsimp only;omega) | (simp<;>omega))):p:=h
def zg {p:Prop}(h:p:=by(first| (dsimp only;omega) | (show _≠_;omega) | (simp<;>omega))):p:=h
def ZS {p:Prop}(h:p:=by(have:=Hb.out.size;omega)):p:=h
def zt {p:Prop}(h:p:=by(have:=Hb.out.size;simp<;>omega)):p:=h
def zx {p:Prop}(h:p:=by(simp[maxLen];omega)):p:=h
def zy {p:Prop}(h:p:=by(simp[Value.oneCell'])):p:=h
def zc {p:Prop}(h:p:=by(intro o c a v w;cases o.dst<;>exact id)):p:=h
def zb {p:Prop}(h:p:=by(repeat first|exact Hb.out| (refine Below.setCell ?_ (by have:=Hb.out.size;first| (dsimp only;omega) | (show _<=_;omega) | (simp<;>omega)) _) | (refine Below.alloc ?_ (by have:=Hb.out.size;simp<;>omega) _) |refine Below.drew ?_)):p:=h
def zl {w:World}{o:Obj}:Below w.heap.size w (w.alloc o):=(Below.refl _ _).alloc (Nat.le_refl _) _
abbrev Bw (w:World):=Below w.heap.size w
def ar (w:World)(b:Nat)(t:TypeId)(cs:List Value):Prop:=w.heap[b]?=some (.cells cs.toArray t (0,0))
def ar.lt {w:World}{b:Nat}{t:TypeId}{cs:List Value}(h:ar w b t cs):b<w.heap.size:=lt_of_block h
def ar.cell {w:World}{b:Nat}{t:TypeId}{cs:List Value}(h:ar w b t cs)(j:Nat):w.cell? ⟨b,j,none⟩=cs[j]?:=by unfold ar at h;simp[World.cell?,h]
def ar.free {w:World}{b:Nat}{t:TypeId}{cs:List Value}(h:ar w b t cs)(j:Nat):w.frozen? ⟨b,j,none⟩=false:=by unfold ar at h;simp[World.frozen?,h]
def ar.set {w:World}{b:Nat}{t:TypeId}{cs:List Value}(h:ar w b t cs)(j:Nat)(v:Value):ar (w.setCell ⟨b,j,none⟩ v) b t (cs.set j v):=by unfold ar at*;simp[World.setCell,Array.getElem?_modify,h]
def ar.aGq {w:World}{b:Nat}{t:TypeId}{cs:List Value}(h:ar w b t cs)(a:Addr)(hne:a.block≠b)(v:Value):ar (w.setCell a v) b t cs:=by unfold ar at*;rw[Below.heap_setCell _ _ _ _ (λe=>hne e.symm)];exact h
def ar.drew {w:World}{b:Nat}{t:TypeId}{cs:List Value}(h:ar w b t cs):ar w.drew b t cs:=h
def ar.alloc {w:World}{b:Nat}{t:TypeId}{cs:List Value}(h:ar w b t cs)(o:Obj):ar (w.alloc o) b t cs:=by have:=h.lt;unfold ar at*;rw[Below.heap_alloc _ _ _ this];exact h
def ar.new (w:World)(t:TypeId)(cs:List Value):ar (w.alloc (.cells cs.toArray t)) w.heap.size t cs:=heap_alloc_new w _
def ar.below {w w':World}{b:Nat}{t:TypeId}{cs:List Value}(h:ar w b t cs)(hb:Bw w w'):ar w' b t cs:=by have:=h.lt;unfold ar at*;rw[hb.block b this];exact h
def ar.grown {w w':World}{b:Nat}{t:TypeId}{cs:List Value}{r:Option Nat}(h:ar w b t cs)(hb:w.grownBy w' r)(hne:some b≠r):ar w' b t cs:=by have:=h.lt;unfold ar at*;rw[hb.block b this hne];exact h
def kB {w w':World}{b:Nat}{t:TypeId}{cs:List Value}(h:RowKit.Hid (ar w b t cs))(k:Bw w w'):RowKit.Hid (ar w' b t cs):=h.out.below k
def iX {w:World}{t:TypeId}{cs:List Value}:ar (w.alloc (.cells cs.toArray t)) w.heap.size t cs/\Bw w (w.alloc (.cells cs.toArray t)):=⟨ar.new _ _ _,zl⟩
def iY {w:World}{t:TypeId}{cs:List Value}:ar (w.alloc (.cells cs.toArray t)).drew w.heap.size t cs/\Bw w (w.alloc (.cells cs.toArray t)).drew:=⟨ar.new w t cs,zl.drew⟩
def aj {p:Prop}(h:p):RowKit.Hid p:=Lib.hid h
def aB {α:Sort _}(a:α):∃x,a=x:=⟨_,rfl⟩
def sk (a:Bool×List UInt8×Int):∃s m e,a=(s,m,e):=⟨_,_,_,rfl⟩
def aK {a b:Prop}(m:a)(n:b):RowKit.Hid a/\RowKit.Hid b:=⟨aj m,aj n⟩
def cw {a b c:Prop}(m:a)(n:b)(o:c):RowKit.Hid a/\RowKit.Hid b/\RowKit.Hid c:=⟨aj m,aj n,aj o⟩
def dv {a b c d:Prop}(m:a)(n:b)(o:c)(p:d):RowKit.Hid a/\RowKit.Hid b/\RowKit.Hid c/\RowKit.Hid d:=⟨aj m,aj n,aj o,aj p⟩
def gT {a b c d e:Prop}(m:a)(n:b)(o:c)(p:d)(q:e):RowKit.Hid a/\RowKit.Hid b/\RowKit.Hid c/\RowKit.Hid d/\RowKit.Hid e:=⟨aj m,aj n,aj o,aj p,aj q⟩
def gU {a b c d e f:Prop}(m:a)(n:b)(o:c)(p:d)(q:e)(r:f):RowKit.Hid a/\RowKit.Hid b/\RowKit.Hid c/\RowKit.Hid d/\RowKit.Hid e/\RowKit.Hid f:=⟨aj m,aj n,aj o,aj p,aj q,aj r⟩
def jL {a b c d e f g:Prop}(m:a)(n:b)(o:c)(p:d)(q:e)(r:f)(s:g):RowKit.Hid a/\RowKit.Hid b/\RowKit.Hid c/\RowKit.Hid d/\RowKit.Hid e/\RowKit.Hid f/\RowKit.Hid g:=⟨aj m,aj n,aj o,aj p,aj q,aj r,aj s⟩
def jZ {a b c d e f g h:Prop}(m:a)(n:b)(o:c)(p:d)(q:e)(r:f)(s:g)(t:h):RowKit.Hid a/\RowKit.Hid b/\RowKit.Hid c/\RowKit.Hid d/\RowKit.Hid e/\RowKit.Hid f/\RowKit.Hid g/\RowKit.Hid h:=⟨aj m,aj n,aj o,aj p,aj q,aj r,aj s,aj t⟩
def CG {a b c d e f g h i:Prop}(m:a)(n:b)(o:c)(p:d)(q:e)(r:f)(s:g)(t:h)(u:i):RowKit.Hid a/\RowKit.Hid b/\RowKit.Hid c/\RowKit.Hid d/\RowKit.Hid e/\RowKit.Hid f/\RowKit.Hid g/\RowKit.Hid h/\RowKit.Hid i:=⟨aj m,aj n,aj o,aj p,aj q,aj r,aj s,aj t,aj u⟩
def yC {a b c d e f g h i j:Prop}(m:a)(n:b)(o:c)(p:d)(q:e)(r:f)(s:g)(t:h)(u:i)(v:j):RowKit.Hid a/\RowKit.Hid b/\RowKit.Hid c/\RowKit.Hid d/\RowKit.Hid e/\RowKit.Hid f/\RowKit.Hid g/\RowKit.Hid h/\RowKit.Hid i/\RowKit.Hid j:=⟨aj m,aj n,aj o,aj p,aj q,aj r,aj s,aj t,aj u,aj v⟩
def ie {a b c d e f g h i j k l:Prop}(m:a)(n:b)(o:c)(p:d)(q:e)(r:f)(s:g)(t:h)(u:i)(v:j)(w:k)(x:l):RowKit.Hid a/\RowKit.Hid b/\RowKit.Hid c/\RowKit.Hid d/\RowKit.Hid e/\RowKit.Hid f/\RowKit.Hid g/\RowKit.Hid h/\RowKit.Hid i/\RowKit.Hid j/\RowKit.Hid k/\RowKit.Hid l:=⟨aj m,aj n,aj o,aj p,aj q,aj r,aj s,aj t,aj u,aj v,aj w,aj x⟩
section
variable {w:World} {b:Nat} {t:TypeId} {x0 x1 x2 x3:Value}
def ar.c1 (h:ar w b t [x0]):w.cell? ⟨b,0,none⟩=some x0:=h.cell 0
def ar.c2 (h:ar w b t [x0,x1]):w.cell? ⟨b,0,none⟩=some x0/\w.cell? ⟨b,1,none⟩=some x1:=⟨h.cell 0,h.cell 1⟩
def ar.c3 (h:ar w b t [x0,x1,x2]):w.cell? ⟨b,0,none⟩=some x0/\w.cell? ⟨b,1,none⟩=some x1/\w.cell? ⟨b,2,none⟩=some x2:=⟨h.cell 0,h.cell 1,h.cell 2⟩
def ar.c4 (h:ar w b t [x0,x1,x2,x3]):w.cell? ⟨b,0,none⟩=some x0/\w.cell? ⟨b,1,none⟩=some x1/\w.cell? ⟨b,2,none⟩=some x2/\w.cell? ⟨b,3,none⟩=some x3:=⟨h.cell 0,h.cell 1,h.cell 2,h.cell 3⟩
def ar.g2 (h:ar w b t [x0,x1]):w.cell? ⟨b,0,none⟩=some x0/\w.frozen? ⟨b,0,none⟩=false/\w.cell? ⟨b,1,none⟩=some x1/\w.frozen? ⟨b,1,none⟩=false:=⟨h.cell 0,h.free 0,h.cell 1,h.free 1⟩
def ar.g3 (h:ar w b t [x0,x1,x2]):w.cell? ⟨b,0,none⟩=some x0/\w.frozen? ⟨b,0,none⟩=false/\w.cell? ⟨b,1,none⟩=some x1/\w.frozen? ⟨b,1,none⟩=false/\w.cell? ⟨b,2,none⟩=some x2/\w.frozen? ⟨b,2,none⟩=false:=
 ⟨h.cell 0,h.free 0,h.cell 1,h.free 1,h.cell 2,h.free 2⟩
def ar.g5 {x0 x1 x2 x3 x4:Value}(h:ar w b t [x0,x1,x2,x3,x4]):w.cell? ⟨b,0,none⟩=some x0/\w.frozen? ⟨b,0,none⟩=false/\w.cell? ⟨b,1,none⟩=some x1/\w.frozen? ⟨b,1,none⟩=false/\w.cell? ⟨b,2,none⟩=some x2/\w.frozen? ⟨b,2,none⟩=false/\w.cell? ⟨b,3,none⟩=some x3/\w.frozen? ⟨b,3,none⟩=false/\w.cell? ⟨b,4,none⟩=some x4/\w.frozen? ⟨b,4,none⟩=false:=⟨h.cell 0,h.free 0,h.cell 1,h.free 1,h.cell 2,h.free 2,h.cell 3,h.free 3,h.cell 4,h.free 4⟩
def ar.c6 {x0 x1 x2 x3 x4 x5:Value}(h:ar w b t [x0,x1,x2,x3,x4,x5]):w.cell? ⟨b,0,none⟩=some x0/\w.cell? ⟨b,1,none⟩=some x1/\w.cell? ⟨b,2,none⟩=some x2/\w.cell? ⟨b,3,none⟩=some x3/\w.cell? ⟨b,4,none⟩=some x4/\w.cell? ⟨b,5,none⟩=some x5:=⟨h.cell 0,h.cell 1,h.cell 2,h.cell 3,h.cell 4,h.cell 5⟩
def ar.g6 {x0 x1 x2 x3 x4 x5:Value}(h:ar w b t [x0,x1,x2,x3,x4,x5]):w.cell? ⟨b,0,none⟩=some x0/\w.frozen? ⟨b,0,none⟩=false/\w.cell? ⟨b,1,none⟩=some x1/\w.frozen? ⟨b,1,none⟩=false/\w.cell? ⟨b,2,none⟩=some x2/\w.frozen? ⟨b,2,none⟩=false/\w.cell? ⟨b,3,none⟩=some x3/\w.frozen? ⟨b,3,none⟩=false/\w.cell? ⟨b,4,none⟩=some x4/\w.frozen? ⟨b,4,none⟩=false/\w.cell? ⟨b,5,none⟩=some x5/\w.frozen? ⟨b,5,none⟩=false:=⟨h.cell 0,h.free 0,h.cell 1,h.free 1,h.cell 2,h.free 2,h.cell 3,h.free 3,h.cell 4,h.free 4,h.cell 5,h.free 5⟩
def ar.so {cs:List Value}(h:ar w b t cs)(p i:Nat)(hne:p≠b)(v:Value):ar (w.setCell ⟨p,i,none⟩ v) b t cs:=h.aGq ⟨p,i,none⟩ hne v
def _root_.Go.RowKit.Below.sc {n:Nat}{w w':World}(h:Below n w w')(p i:Nat)(hp:n<=p)(v:Value):Below n w (w'.setCell ⟨p,i,none⟩ v):=h.setCell hp v
end
def grownBy_set {w:World}{a:Addr}(b:Nat)(hb:a.block=b)(v:Value):w.grownBy (w.setCell a v) (some b):=
 ⟨rfl,rfl,rfl,by simp[World.setCell],λk _ hk=>Below.heap_setCell _ _ _ _ (λe=>hk (by rw[e,hb]))⟩
def grownBy_trans {a b c:World}{r:Option Nat}(h:a.grownBy b r)(k:b.grownBy c r):a.grownBy c r:=
 ⟨k.os.trans h.os,k.tape.trans h.tape,k.output.trans h.output,Nat.le_trans h.size k.size,λi hi hn=>(k.block i (Nat.lt_of_lt_of_le hi h.size) hn).trans (h.block i hi hn)⟩
def grownBy_refl (w:World)(r:Option Nat):w.grownBy w r:=⟨rfl,rfl,rfl,Nat.le_refl _,λ_ _ _=>rfl⟩
def eF {w w':World}{r:Option Nat}(hg:w.grownBy w' r){a:Addr}{v:Value}(h:w.cell? a=some v)(hne:some a.block≠r):w'.cell? a=some v:=hg.cell h hne
def u64 (n:Nat):Value:=.int .u64 (n:Int)
def dO (w:World)(b o n v:Nat):Prop:=∀j,j<n->w.cell? ⟨b,o+j,none⟩=some (.int .u64 (dg v j:Int))
def dO.less {w:World}{b o n m v:Nat}(h:dO w b o n v)(hm:m<=n):dO w b o m v:=λj hj=>h j zo
def dO.below {w w':World}{b o n v:Nat}(h:dO w b o n v)(hb:Bw w w'):dO w' b o n v:=λj hj=>cell_later hb (h j hj)
def dO.grown {w w':World}{b o n v:Nat}{r:Option Nat}(h:dO w b o n v)(hb:w.grownBy w' r)(hne:some b≠r):dO w' b o n v:=λj hj=>hb.cell (h j hj) hne
def bI (n:Nat)(f:Nat->Nat):List Value:=(List.range n).map λj=>.int .u64 (f j:Int)
def Bb (n:Nat)(f:Nat->Nat):(bI n f).length=n:=by simp[bI]
def iq (n:Nat)(f:Nat->Nat)(j:Nat)(h:j<n):(bI n f)[j]?=some (.int .u64 (f j:Int)):=by simp[bI,List.getElem?_range h]
def lD {n:Nat}{f g:Nat->Nat}(h:∀j,j<n->f j=g j):bI n f=bI n g:=by unfold bI;refine List.map_congr_left λj hj=>?_;rw[h j (by simpa using hj)]
def FD (n:Nat)(f:Nat->Nat)(i x:Nat):(bI n f).set i (.int .u64 (x:Int))=bI n (λj=>if j=i then x else f j):=by
 apply List.ext_getElem?;intro j;rw[List.getElem?_set,Bb];by_cases h:j<n
 . rw[iq _ _ _ h,iq _ _ _ h];by_cases e:i=j
   . subst e;simp[h]
   . simp[e,Ne.symm e]
 . by_cases e:i=j
   . subst e;simp[bI,h]
   . simp[e,bI,h]
def bs (l:List UInt8):ByteArray:=⟨l.toArray⟩
def eH {w w':World}{b:Nat}{t:TypeId}{x0 x1:Value}(h:RowKit.Hid (ar w b t [x0,x1]))(k:Bw w w'):RowKit.Hid (ar w' b t [x0,x1])/\w'.cell? ⟨b,0,none⟩=some x0/\w'.cell? ⟨b,1,none⟩=some x1:=And.intro (kB h k)<|ar.c2 (kB h k).out
def gD {w w':World}{b:Nat}{t:TypeId}{x0 x1 x2:Value}(h:RowKit.Hid (ar w b t [x0,x1,x2]))(k:Bw w w'):RowKit.Hid (ar w' b t [x0,x1,x2])/\w'.cell? ⟨b,0,none⟩=some x0/\w'.cell? ⟨b,1,none⟩=some x1/\w'.cell? ⟨b,2,none⟩=some x2:=And.intro (kB h k)<|ar.c3 (kB h k).out
def wR {w w':World}{b:Nat}{t:TypeId}{x0 x1 x2 x3:Value}(h:RowKit.Hid (ar w b t [x0,x1,x2,x3]))(k:Bw w w'):RowKit.Hid (ar w' b t [x0,x1,x2,x3])/\w'.cell? ⟨b,0,none⟩=some x0/\w'.cell? ⟨b,1,none⟩=some x1/\w'.cell? ⟨b,2,none⟩=some x2/\w'.cell? ⟨b,3,none⟩=some x3:=And.intro (kB h k)<|ar.c4 (kB h k).out
def AA {w w':World}{b:Nat}{t:TypeId}{x0 x1 x2 x3 x4 x5:Value}(h:RowKit.Hid (ar w b t [x0,x1,x2,x3,x4,x5]))(k:Bw w w'):RowKit.Hid (ar w' b t [x0,x1,x2,x3,x4,x5])/\w'.cell? ⟨b,0,none⟩=some x0/\w'.cell? ⟨b,1,none⟩=some x1/\w'.cell? ⟨b,2,none⟩=some x2/\w'.cell? ⟨b,3,none⟩=some x3/\w'.cell? ⟨b,4,none⟩=some x4/\w'.cell? ⟨b,5,none⟩=some x5:=And.intro (kB h k)<|ar.c6 (kB h k).out
def dt {w w':World}{b:Nat}{t:TypeId}{x0 x1:Value}(h:RowKit.Hid (ar w b t [x0,x1]))(k:Bw w w'):RowKit.Hid (ar w' b t [x0,x1])/\w'.cell? ⟨b,0,none⟩=some x0/\w'.frozen? ⟨b,0,none⟩=false/\w'.cell? ⟨b,1,none⟩=some x1/\w'.frozen? ⟨b,1,none⟩=false:=And.intro (kB h k)<|ar.g2 (kB h k).out
def fP {w w':World}{b:Nat}{t:TypeId}{x0 x1 x2:Value}(h:RowKit.Hid (ar w b t [x0,x1,x2]))(k:Bw w w'):RowKit.Hid (ar w' b t [x0,x1,x2])/\w'.cell? ⟨b,0,none⟩=some x0/\w'.frozen? ⟨b,0,none⟩=false/\w'.cell? ⟨b,1,none⟩=some x1/\w'.frozen? ⟨b,1,none⟩=false/\w'.cell? ⟨b,2,none⟩=some x2/\w'.frozen? ⟨b,2,none⟩=false:=And.intro (kB h k)<|ar.g3 (kB h k).out
abbrev ah (l:List UInt8):Value:=.string (bs l)
abbrev af (x:Int):Value:=.int .i64 x
abbrev ag (x:Bool):Value:=.bool x
abbrev aH (w:World)(b o:Nat)(v:Value):Prop:=w.cell? ⟨b,o,none⟩=some v
def hbz (w:World):Hid (Bw w w):=Below.refl _ _
def bC {p:Prop}(h:p:=by simp[intOf];omega):p:=h
abbrev Cl:=Calls Tryz.prog
abbrev Cv (f:FuncId)(a:Array Value)(w:World)(v:Value):=Calls Tryz.prog f a w λe w'=>e=.returned v/\Bw w w'
end Go.Proofs.YtbkopgdpcijfbaaGreatDoor
