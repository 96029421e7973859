/- Small facts on worlds that the walks share. -/
import Derived.Test.YtnjfebkelecgaaaGreatDoorProg
import Derived.Test.YtnjfebkelecgaaaGreatDoorZ1
import Derived.WalkKit
import Derived.WalkSpells
import Derived.WalkLawsBesides
import Derived.Lib.Hide
import Derived.BigQuiet
import Derived.Deep.QuietTactic
import Derived.Deep.LoopGhost
import Derived.Deep.DeepFit
set_option linter.unusedVariables false
set_option linter.unusedSimpArgs false
set_option maxRecDepth 100000
set_option maxHeartbeats 16000000
namespace Go.Proofs.YtnjfebkelecgaaaGreatDoor
open Go.RowKit
theorem zo {p:Prop}(h:p:=by omega):p:=h
theorem zd {p:Prop}(h:p:=by decide):p:=h
theorem zm {p:Prop}(h:p:=by simp):p:=h
theorem zj {p:Prop}(h:p:=by simp<;>omega):p:=h
theorem zp {p:Prop}(h:p:=by(dsimp only;omega)):p:=h
theorem zi {p:Prop}(h:p:=by(simp;omega)):p:=h
theorem zk {p:Prop}(h:p:=by kernel_rfl):p:=h
theorem zf {p:Prop}(h:p:=by(first| (dsimp only;omega) | (simp<;>omega))):p:=h
theorem zg {p:Prop}(h:p:=by(first| (dsimp only;omega) | (show _≠_;omega) | (simp<;>omega))):p:=h
theorem ZS {p:Prop}(h:p:=by(have:=Hb.out.size;omega)):p:=h
theorem zt {p:Prop}(h:p:=by(have:=Hb.out.size;simp<;>omega)):p:=h
theorem zx {p:Prop}(h:p:=by(simp[maxLen];omega)):p:=h
theorem zy {p:Prop}(h:p:=by(simp[Value.oneCell'])):p:=h
theorem zc {p:Prop}(h:p:=by(intro o c a v w;cases o.dst<;>exact id)):p:=h
theorem zb {p:Prop}(h:p:=by(repeat first|exact Hb.out| (refine Below.setCell ?_ (by have:=Hb.out.size;first| (dsimp only;omega) | (show _<=_;omega) | (simp<;>omega)) _) | (refine Below.alloc ?_ (by have:=Hb.out.size;simp<;>omega) _) |refine Below.drew ?_)):p:=h
theorem zl {w:World}{o:Obj}:Below w.heap.size w (w.alloc o):=(Below.refl _ _).alloc (Nat.le_refl _) _
abbrev Bw (w:World):=Below w.heap.size w
def aC (w:World)(b:Nat)(t:TypeId)(cs:List Value):Prop:=w.heap[b]?=some (.cells cs.toArray t (0,0))
theorem aC.lt {w:World}{b:Nat}{t:TypeId}{cs:List Value}(h:aC w b t cs):b<w.heap.size:=lt_of_block h
theorem aC.cell {w:World}{b:Nat}{t:TypeId}{cs:List Value}(h:aC w b t cs)(j:Nat):w.cell? ⟨b,j,none⟩=cs[j]?:=by unfold aC at h;simp[World.cell?,h]
theorem aC.free {w:World}{b:Nat}{t:TypeId}{cs:List Value}(h:aC w b t cs)(j:Nat):w.frozen? ⟨b,j,none⟩=false:=by unfold aC at h;simp[World.frozen?,h]
theorem aC.set {w:World}{b:Nat}{t:TypeId}{cs:List Value}(h:aC w b t cs)(j:Nat)(v:Value):aC (w.setCell ⟨b,j,none⟩ v) b t (cs.set j v):=by unfold aC at*;simp[World.setCell,Array.getElem?_modify,h]
theorem aC.aBg {w:World}{b:Nat}{t:TypeId}{cs:List Value}(h:aC w b t cs)(a:Addr)(hne:a.block≠b)(v:Value):aC (w.setCell a v) b t cs:=by unfold aC at*;rw[Below.heap_setCell _ _ _ _ (λe=>hne e.symm)];exact h
theorem aC.drew {w:World}{b:Nat}{t:TypeId}{cs:List Value}(h:aC w b t cs):aC w.drew b t cs:=h
theorem aC.alloc {w:World}{b:Nat}{t:TypeId}{cs:List Value}(h:aC w b t cs)(o:Obj):aC (w.alloc o) b t cs:=by have:=h.lt;unfold aC at*;rw[Below.heap_alloc _ _ _ this];exact h
theorem aC.new (w:World)(t:TypeId)(cs:List Value):aC (w.alloc (.cells cs.toArray t)) w.heap.size t cs:=heap_alloc_new w _
theorem aC.below {w w':World}{b:Nat}{t:TypeId}{cs:List Value}(h:aC w b t cs)(hb:Bw w w'):aC w' b t cs:=by have:=h.lt;unfold aC at*;rw[hb.block b this];exact h
theorem aC.grown {w w':World}{b:Nat}{t:TypeId}{cs:List Value}{r:Option Nat}(h:aC w b t cs)(hb:w.grownBy w' r)(hne:some b≠r):aC w' b t cs:=by have:=h.lt;unfold aC at*;rw[hb.block b this hne];exact h
theorem kB {w w':World}{b:Nat}{t:TypeId}{cs:List Value}(h:RowKit.Hid (aC w b t cs))(k:Bw w w'):RowKit.Hid (aC w' b t cs):=h.out.below k
theorem dZ {w:World}{t:TypeId}{cs:List Value}:aC (w.alloc (.cells cs.toArray t)) w.heap.size t cs/\Bw w (w.alloc (.cells cs.toArray t)):=⟨aC.new _ _ _,zl⟩
theorem ej {w:World}{t:TypeId}{cs:List Value}:aC (w.alloc (.cells cs.toArray t)).drew w.heap.size t cs/\Bw w (w.alloc (.cells cs.toArray t)).drew:=⟨aC.new w t cs,zl.drew⟩
theorem aj {p:Prop}(h:p):RowKit.Hid p:=Lib.hid h
theorem aK {α:Sort _}(a:α):∃x,a=x:=⟨_,rfl⟩
theorem rZ (a:Bool×List UInt8×Int):∃s m e,a=(s,m,e):=⟨_,_,_,rfl⟩
theorem aZ {a b:Prop}(m:a)(n:b):RowKit.Hid a/\RowKit.Hid b:=⟨aj m,aj n⟩
theorem dc {a b c:Prop}(m:a)(n:b)(o:c):RowKit.Hid a/\RowKit.Hid b/\RowKit.Hid c:=⟨aj m,aj n,aj o⟩
theorem eN {a b c d:Prop}(m:a)(n:b)(o:c)(p:d):RowKit.Hid a/\RowKit.Hid b/\RowKit.Hid c/\RowKit.Hid d:=⟨aj m,aj n,aj o,aj p⟩
theorem fU {a b c d e:Prop}(m:a)(n:b)(o:c)(p:d)(q:e):RowKit.Hid a/\RowKit.Hid b/\RowKit.Hid c/\RowKit.Hid d/\RowKit.Hid e:=⟨aj m,aj n,aj o,aj p,aj q⟩
theorem gP {a b c d e f:Prop}(m:a)(n:b)(o:c)(p:d)(q:e)(r:f):RowKit.Hid a/\RowKit.Hid b/\RowKit.Hid c/\RowKit.Hid d/\RowKit.Hid e/\RowKit.Hid f:=⟨aj m,aj n,aj o,aj p,aj q,aj r⟩
theorem lG {a b c d e f g:Prop}(m:a)(n:b)(o:c)(p:d)(q:e)(r:f)(s:g):RowKit.Hid a/\RowKit.Hid b/\RowKit.Hid c/\RowKit.Hid d/\RowKit.Hid e/\RowKit.Hid f/\RowKit.Hid g:=⟨aj m,aj n,aj o,aj p,aj q,aj r,aj s⟩
theorem rG {a b c d e f g h:Prop}(m:a)(n:b)(o:c)(p:d)(q:e)(r:f)(s:g)(t:h):RowKit.Hid a/\RowKit.Hid b/\RowKit.Hid c/\RowKit.Hid d/\RowKit.Hid e/\RowKit.Hid f/\RowKit.Hid g/\RowKit.Hid h:=⟨aj m,aj n,aj o,aj p,aj q,aj r,aj s,aj t⟩
theorem DZ {a b c d e f g h i:Prop}(m:a)(n:b)(o:c)(p:d)(q:e)(r:f)(s:g)(t:h)(u:i):RowKit.Hid a/\RowKit.Hid b/\RowKit.Hid c/\RowKit.Hid d/\RowKit.Hid e/\RowKit.Hid f/\RowKit.Hid g/\RowKit.Hid h/\RowKit.Hid i:=⟨aj m,aj n,aj o,aj p,aj q,aj r,aj s,aj t,aj u⟩
theorem Nj {a b c d e f g h i j:Prop}(m:a)(n:b)(o:c)(p:d)(q:e)(r:f)(s:g)(t:h)(u:i)(v:j):RowKit.Hid a/\RowKit.Hid b/\RowKit.Hid c/\RowKit.Hid d/\RowKit.Hid e/\RowKit.Hid f/\RowKit.Hid g/\RowKit.Hid h/\RowKit.Hid i/\RowKit.Hid j:=⟨aj m,aj n,aj o,aj p,aj q,aj r,aj s,aj t,aj u,aj v⟩
theorem aqP {a b c d e f g h i j k:Prop}(m:a)(n:b)(o:c)(p:d)(q:e)(r:f)(s:g)(t:h)(u:i)(v:j)(w:k):RowKit.Hid a/\RowKit.Hid b/\RowKit.Hid c/\RowKit.Hid d/\RowKit.Hid e/\RowKit.Hid f/\RowKit.Hid g/\RowKit.Hid h/\RowKit.Hid i/\RowKit.Hid j/\RowKit.Hid k:=⟨aj m,aj n,aj o,aj p,aj q,aj r,aj s,aj t,aj u,aj v,aj w⟩
theorem gy {a b c d e f g h i j k l:Prop}(m:a)(n:b)(o:c)(p:d)(q:e)(r:f)(s:g)(t:h)(u:i)(v:j)(w:k)(x:l):RowKit.Hid a/\RowKit.Hid b/\RowKit.Hid c/\RowKit.Hid d/\RowKit.Hid e/\RowKit.Hid f/\RowKit.Hid g/\RowKit.Hid h/\RowKit.Hid i/\RowKit.Hid j/\RowKit.Hid k/\RowKit.Hid l:=⟨aj m,aj n,aj o,aj p,aj q,aj r,aj s,aj t,aj u,aj v,aj w,aj x⟩
section
variable {w:World} {b:Nat} {t:TypeId} {x0 x1 x2 x3:Value}
theorem aC.c1 (h:aC w b t [x0]):w.cell? ⟨b,0,none⟩=some x0:=h.cell 0
theorem aC.c2 (h:aC w b t [x0,x1]):w.cell? ⟨b,0,none⟩=some x0/\w.cell? ⟨b,1,none⟩=some x1:=⟨h.cell 0,h.cell 1⟩
theorem aC.c3 (h:aC w b t [x0,x1,x2]):w.cell? ⟨b,0,none⟩=some x0/\w.cell? ⟨b,1,none⟩=some x1/\w.cell? ⟨b,2,none⟩=some x2:=⟨h.cell 0,h.cell 1,h.cell 2⟩
theorem aC.c4 (h:aC w b t [x0,x1,x2,x3]):w.cell? ⟨b,0,none⟩=some x0/\w.cell? ⟨b,1,none⟩=some x1/\w.cell? ⟨b,2,none⟩=some x2/\w.cell? ⟨b,3,none⟩=some x3:=⟨h.cell 0,h.cell 1,h.cell 2,h.cell 3⟩
theorem aC.g2 (h:aC w b t [x0,x1]):w.cell? ⟨b,0,none⟩=some x0/\w.frozen? ⟨b,0,none⟩=false/\w.cell? ⟨b,1,none⟩=some x1/\w.frozen? ⟨b,1,none⟩=false:=⟨h.cell 0,h.free 0,h.cell 1,h.free 1⟩
theorem aC.g3 (h:aC w b t [x0,x1,x2]):w.cell? ⟨b,0,none⟩=some x0/\w.frozen? ⟨b,0,none⟩=false/\w.cell? ⟨b,1,none⟩=some x1/\w.frozen? ⟨b,1,none⟩=false/\w.cell? ⟨b,2,none⟩=some x2/\w.frozen? ⟨b,2,none⟩=false:=
 ⟨h.cell 0,h.free 0,h.cell 1,h.free 1,h.cell 2,h.free 2⟩
theorem aC.g4 (h:aC w b t [x0,x1,x2,x3]):w.cell? ⟨b,0,none⟩=some x0/\w.frozen? ⟨b,0,none⟩=false/\w.cell? ⟨b,1,none⟩=some x1/\w.frozen? ⟨b,1,none⟩=false/\w.cell? ⟨b,2,none⟩=some x2/\w.frozen? ⟨b,2,none⟩=false/\w.cell? ⟨b,3,none⟩=some x3/\w.frozen? ⟨b,3,none⟩=false:=
 ⟨h.cell 0,h.free 0,h.cell 1,h.free 1,h.cell 2,h.free 2,h.cell 3,h.free 3⟩
theorem aC.c5 {x0 x1 x2 x3 x4:Value}(h:aC w b t [x0,x1,x2,x3,x4]):w.cell? ⟨b,0,none⟩=some x0/\w.cell? ⟨b,1,none⟩=some x1/\w.cell? ⟨b,2,none⟩=some x2/\w.cell? ⟨b,3,none⟩=some x3/\w.cell? ⟨b,4,none⟩=some x4:=⟨h.cell 0,h.cell 1,h.cell 2,h.cell 3,h.cell 4⟩
theorem aC.g5 {x0 x1 x2 x3 x4:Value}(h:aC w b t [x0,x1,x2,x3,x4]):w.cell? ⟨b,0,none⟩=some x0/\w.frozen? ⟨b,0,none⟩=false/\w.cell? ⟨b,1,none⟩=some x1/\w.frozen? ⟨b,1,none⟩=false/\w.cell? ⟨b,2,none⟩=some x2/\w.frozen? ⟨b,2,none⟩=false/\w.cell? ⟨b,3,none⟩=some x3/\w.frozen? ⟨b,3,none⟩=false/\w.cell? ⟨b,4,none⟩=some x4/\w.frozen? ⟨b,4,none⟩=false:=⟨h.cell 0,h.free 0,h.cell 1,h.free 1,h.cell 2,h.free 2,h.cell 3,h.free 3,h.cell 4,h.free 4⟩
theorem aC.c6 {x0 x1 x2 x3 x4 x5:Value}(h:aC w b t [x0,x1,x2,x3,x4,x5]):w.cell? ⟨b,0,none⟩=some x0/\w.cell? ⟨b,1,none⟩=some x1/\w.cell? ⟨b,2,none⟩=some x2/\w.cell? ⟨b,3,none⟩=some x3/\w.cell? ⟨b,4,none⟩=some x4/\w.cell? ⟨b,5,none⟩=some x5:=⟨h.cell 0,h.cell 1,h.cell 2,h.cell 3,h.cell 4,h.cell 5⟩
theorem aC.so {cs:List Value}(h:aC w b t cs)(p i:Nat)(hne:p≠b)(v:Value):aC (w.setCell ⟨p,i,none⟩ v) b t cs:=h.aBg ⟨p,i,none⟩ hne v
theorem _root_.Go.RowKit.Below.sc {n:Nat}{w w':World}(h:Below n w w')(p i:Nat)(hp:n<=p)(v:Value):Below n w (w'.setCell ⟨p,i,none⟩ v):=h.setCell hp v
end
theorem grownBy_set {w:World}{a:Addr}(b:Nat)(hb:a.block=b)(v:Value):w.grownBy (w.setCell a v) (some b):=
 ⟨rfl,rfl,rfl,by simp[World.setCell],λk _ hk=>Below.heap_setCell _ _ _ _ (λe=>hk (by rw[e,hb]))⟩
theorem grownBy_trans {a b c:World}{r:Option Nat}(h:a.grownBy b r)(k:b.grownBy c r):a.grownBy c r:=
 ⟨k.os.trans h.os,k.tape.trans h.tape,k.output.trans h.output,Nat.le_trans h.size k.size,λi hi hn=>(k.block i (Nat.lt_of_lt_of_le hi h.size) hn).trans (h.block i hi hn)⟩
theorem grownBy_refl (w:World)(r:Option Nat):w.grownBy w r:=⟨rfl,rfl,rfl,Nat.le_refl _,λ_ _ _=>rfl⟩
theorem cV {w w':World}{r:Option Nat}(hg:w.grownBy w' r){a:Addr}{v:Value}(h:w.cell? a=some v)(hne:some a.block≠r):w'.cell? a=some v:=hg.cell h hne
def u64 (n:Nat):Value:=.int .u64 (n:Int)
def ey (w:World)(b o n v:Nat):Prop:=∀j,j<n->w.cell? ⟨b,o+j,none⟩=some (.int .u64 (dg v j:Int))
theorem ey.less {w:World}{b o n m v:Nat}(h:ey w b o n v)(hm:m<=n):ey w b o m v:=λj hj=>h j zo
theorem ey.below {w w':World}{b o n v:Nat}(h:ey w b o n v)(hb:Bw w w'):ey w' b o n v:=λj hj=>cell_later hb (h j hj)
theorem ey.grown {w w':World}{b o n v:Nat}{r:Option Nat}(h:ey w b o n v)(hb:w.grownBy w' r)(hne:some b≠r):ey w' b o n v:=λj hj=>hb.cell (h j hj) hne
def bX (n:Nat)(f:Nat->Nat):List Value:=(List.range n).map λj=>.int .u64 (f j:Int)
theorem zG (n:Nat)(f:Nat->Nat):(bX n f).length=n:=by simp[bX]
theorem gV (n:Nat)(f:Nat->Nat)(j:Nat)(h:j<n):(bX n f)[j]?=some (.int .u64 (f j:Int)):=by simp[bX,List.getElem?_range h]
theorem kV {n:Nat}{f g:Nat->Nat}(h:∀j,j<n->f j=g j):bX n f=bX n g:=by unfold bX;refine List.map_congr_left λj hj=>?_;rw[h j (by simpa using hj)]
theorem Eu (n:Nat)(f:Nat->Nat)(i x:Nat):(bX n f).set i (.int .u64 (x:Int))=bX n (λj=>if j=i then x else f j):=by
 apply List.ext_getElem?;intro j;rw[List.getElem?_set,zG];by_cases h:j<n
 . rw[gV _ _ _ h,gV _ _ _ h];by_cases e:i=j
   . subst e;simp[h]
   . simp[e,Ne.symm e]
 . by_cases e:i=j
   . subst e;simp[bX,h]
   . simp[e,bX,h]
def bs (l:List UInt8):ByteArray:=⟨l.toArray⟩
theorem bi {w w':World}{b:Nat}{t:TypeId}{x0 x1:Value}(h:RowKit.Hid (aC w b t [x0,x1]))(k:Bw w w'):RowKit.Hid (aC w' b t [x0,x1])/\w'.cell? ⟨b,0,none⟩=some x0/\w'.cell? ⟨b,1,none⟩=some x1:=And.intro (kB h k)<|aC.c2 (kB h k).out
theorem bP {w w':World}{b:Nat}{t:TypeId}{x0 x1 x2:Value}(h:RowKit.Hid (aC w b t [x0,x1,x2]))(k:Bw w w'):RowKit.Hid (aC w' b t [x0,x1,x2])/\w'.cell? ⟨b,0,none⟩=some x0/\w'.cell? ⟨b,1,none⟩=some x1/\w'.cell? ⟨b,2,none⟩=some x2:=And.intro (kB h k)<|aC.c3 (kB h k).out
theorem dK {w w':World}{b:Nat}{t:TypeId}{x0 x1 x2 x3:Value}(h:RowKit.Hid (aC w b t [x0,x1,x2,x3]))(k:Bw w w'):RowKit.Hid (aC w' b t [x0,x1,x2,x3])/\w'.cell? ⟨b,0,none⟩=some x0/\w'.cell? ⟨b,1,none⟩=some x1/\w'.cell? ⟨b,2,none⟩=some x2/\w'.cell? ⟨b,3,none⟩=some x3:=And.intro (kB h k)<|aC.c4 (kB h k).out
theorem jO {w w':World}{b:Nat}{t:TypeId}{x0 x1 x2 x3 x4 x5:Value}(h:RowKit.Hid (aC w b t [x0,x1,x2,x3,x4,x5]))(k:Bw w w'):RowKit.Hid (aC w' b t [x0,x1,x2,x3,x4,x5])/\w'.cell? ⟨b,0,none⟩=some x0/\w'.cell? ⟨b,1,none⟩=some x1/\w'.cell? ⟨b,2,none⟩=some x2/\w'.cell? ⟨b,3,none⟩=some x3/\w'.cell? ⟨b,4,none⟩=some x4/\w'.cell? ⟨b,5,none⟩=some x5:=And.intro (kB h k)<|aC.c6 (kB h k).out
theorem bE {w w':World}{b:Nat}{t:TypeId}{x0 x1:Value}(h:RowKit.Hid (aC w b t [x0,x1]))(k:Bw w w'):RowKit.Hid (aC w' b t [x0,x1])/\w'.cell? ⟨b,0,none⟩=some x0/\w'.frozen? ⟨b,0,none⟩=false/\w'.cell? ⟨b,1,none⟩=some x1/\w'.frozen? ⟨b,1,none⟩=false:=And.intro (kB h k)<|aC.g2 (kB h k).out
theorem bg {w w':World}{b:Nat}{t:TypeId}{x0 x1 x2:Value}(h:RowKit.Hid (aC w b t [x0,x1,x2]))(k:Bw w w'):RowKit.Hid (aC w' b t [x0,x1,x2])/\w'.cell? ⟨b,0,none⟩=some x0/\w'.frozen? ⟨b,0,none⟩=false/\w'.cell? ⟨b,1,none⟩=some x1/\w'.frozen? ⟨b,1,none⟩=false/\w'.cell? ⟨b,2,none⟩=some x2/\w'.frozen? ⟨b,2,none⟩=false:=And.intro (kB h k)<|aC.g3 (kB h k).out
abbrev ai (l:List UInt8):Value:=.string (bs l)
abbrev ah (x:Int):Value:=.int .i64 x
abbrev ar (x:Bool):Value:=.bool x
abbrev aH (w:World)(b o:Nat)(v:Value):Prop:=w.cell? ⟨b,o,none⟩=some v
end Go.Proofs.YtnjfebkelecgaaaGreatDoor
