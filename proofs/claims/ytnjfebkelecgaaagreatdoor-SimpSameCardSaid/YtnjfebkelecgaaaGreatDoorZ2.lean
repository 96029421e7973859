/- Small facts on worlds that the walks share. -/
import Derived.Test.YtnjfebkelecgaaaGreatDoorProg
import Derived.Test.YtnjfebkelecgaaaGreatDoorZ1
import Derived.WalkKit
import Derived.WalkSpells
import Derived.WalkLawsBesides
import Derived.Lib.Hide
import Derived.BigQuiet
import Derived.Deep.QuietTactic
import Derived.Deep.LoopGhost
import Derived.Deep.DeepFit
set_option linter.all false
set_option maxRecDepth 100000
set_option maxHeartbeats 16000000
namespace Go.Proofs.YtnjfebkelecgaaaGreatDoor
open Go.RowKit
def zo {p:Prop}(h:p:=by omega):p:=h
def zd {p:Prop}(h:p:=by decide):p:=h
def zm {p:Prop}(h:p:=by simp):p:=h
def zj {p:Prop}(h:p:=by simp<;>omega):p:=h
def zp {p:Prop}(h:p:=by(dsimp only;omega)):p:=h
def zi {p:Prop}(h:p:=by(simp;omega)):p:=h
def zk {p:Prop}(h:p:=by kernel_rfl):p:=h
def zf {p:Prop}(h:p:=by(first| (dsimp only;omega) | (simp<;>omega))):p:=h
def zg {p:Prop}(h:p:=by(first| (dsimp only;omega) | (show _≠_;omega) | (simp<;>omega))):p:=h
def ZS {p:Prop}(h:p:=by(have:=Hb.out.size;omega)):p:=h
def zt {p:Prop}(h:p:=by(have:=Hb.out.size;simp<;>omega)):p:=h
def zx {p:Prop}(h:p:=by(simp[maxLen];omega)):p:=h
def zy {p:Prop}(h:p:=by(simp[Value.oneCell'])):p:=h
def zc {p:Prop}(h:p:=by(intro o c a v w;cases o.dst<;>exact id)):p:=h
def zb {p:Prop}(h:p:=by(repeat first|exact Hb.out| (refine Below.setCell ?_ (by have:=Hb.out.size;first| (dsimp only;omega) | (show _<=_;omega) | (simp<;>omega)) _) | (refine Below.alloc ?_ (by have:=Hb.out.size;simp<;>omega) _) |refine Below.drew ?_)):p:=h
def zl {w:World}{o:Obj}:Below w.heap.size w (w.alloc o):=(Below.refl _ _).alloc (Nat.le_refl _) _
abbrev Bw (w:World):=Below w.heap.size w
def au (w:World)(b:Nat)(t:TypeId)(cs:List Value):Prop:=w.heap[b]?=some (.cells cs.toArray t (0,0))
def au.lt {w:World}{b:Nat}{t:TypeId}{cs:List Value}(h:au w b t cs):b<w.heap.size:=lt_of_block h
def au.cell {w:World}{b:Nat}{t:TypeId}{cs:List Value}(h:au w b t cs)(j:Nat):w.cell? ⟨b,j,none⟩=cs[j]?:=by unfold au at h;simp[World.cell?,h]
def au.free {w:World}{b:Nat}{t:TypeId}{cs:List Value}(h:au w b t cs)(j:Nat):w.frozen? ⟨b,j,none⟩=false:=by unfold au at h;simp[World.frozen?,h]
def au.set {w:World}{b:Nat}{t:TypeId}{cs:List Value}(h:au w b t cs)(j:Nat)(v:Value):au (w.setCell ⟨b,j,none⟩ v) b t (cs.set j v):=by unfold au at*;simp[World.setCell,Array.getElem?_modify,h]
def au.aFJ {w:World}{b:Nat}{t:TypeId}{cs:List Value}(h:au w b t cs)(a:Addr)(hne:a.block≠b)(v:Value):au (w.setCell a v) b t cs:=by unfold au at*;rw[Below.heap_setCell _ _ _ _ (λe=>hne e.symm)];exact h
def au.drew {w:World}{b:Nat}{t:TypeId}{cs:List Value}(h:au w b t cs):au w.drew b t cs:=h
def au.alloc {w:World}{b:Nat}{t:TypeId}{cs:List Value}(h:au w b t cs)(o:Obj):au (w.alloc o) b t cs:=by have:=h.lt;unfold au at*;rw[Below.heap_alloc _ _ _ this];exact h
def au.new (w:World)(t:TypeId)(cs:List Value):au (w.alloc (.cells cs.toArray t)) w.heap.size t cs:=heap_alloc_new w _
def au.below {w w':World}{b:Nat}{t:TypeId}{cs:List Value}(h:au w b t cs)(hb:Bw w w'):au w' b t cs:=by have:=h.lt;unfold au at*;rw[hb.block b this];exact h
def au.grown {w w':World}{b:Nat}{t:TypeId}{cs:List Value}{r:Option Nat}(h:au w b t cs)(hb:w.grownBy w' r)(hne:some b≠r):au w' b t cs:=by have:=h.lt;unfold au at*;rw[hb.block b this hne];exact h
def kB {w w':World}{b:Nat}{t:TypeId}{cs:List Value}(h:RowKit.Hid (au w b t cs))(k:Bw w w'):RowKit.Hid (au w' b t cs):=h.out.below k
def eo {w:World}{t:TypeId}{cs:List Value}:au (w.alloc (.cells cs.toArray t)) w.heap.size t cs/\Bw w (w.alloc (.cells cs.toArray t)):=⟨au.new _ _ _,zl⟩
def eu {w:World}{t:TypeId}{cs:List Value}:au (w.alloc (.cells cs.toArray t)).drew w.heap.size t cs/\Bw w (w.alloc (.cells cs.toArray t)).drew:=⟨au.new w t cs,zl.drew⟩
def ar {p:Prop}(h:p):RowKit.Hid p:=Lib.hid h
def aK {α:Sort _}(a:α):∃x,a=x:=⟨_,rfl⟩
def pJ (a:Bool×List UInt8×Int):∃s m e,a=(s,m,e):=⟨_,_,_,rfl⟩
def aZ {a b:Prop}(m:a)(n:b):RowKit.Hid a/\RowKit.Hid b:=⟨ar m,ar n⟩
def cX {a b c:Prop}(m:a)(n:b)(o:c):RowKit.Hid a/\RowKit.Hid b/\RowKit.Hid c:=⟨ar m,ar n,ar o⟩
def ej {a b c d:Prop}(m:a)(n:b)(o:c)(p:d):RowKit.Hid a/\RowKit.Hid b/\RowKit.Hid c/\RowKit.Hid d:=⟨ar m,ar n,ar o,ar p⟩
def fU {a b c d e:Prop}(m:a)(n:b)(o:c)(p:d)(q:e):RowKit.Hid a/\RowKit.Hid b/\RowKit.Hid c/\RowKit.Hid d/\RowKit.Hid e:=⟨ar m,ar n,ar o,ar p,ar q⟩
def iq {a b c d e f:Prop}(m:a)(n:b)(o:c)(p:d)(q:e)(r:f):RowKit.Hid a/\RowKit.Hid b/\RowKit.Hid c/\RowKit.Hid d/\RowKit.Hid e/\RowKit.Hid f:=⟨ar m,ar n,ar o,ar p,ar q,ar r⟩
def mE {a b c d e f g:Prop}(m:a)(n:b)(o:c)(p:d)(q:e)(r:f)(s:g):RowKit.Hid a/\RowKit.Hid b/\RowKit.Hid c/\RowKit.Hid d/\RowKit.Hid e/\RowKit.Hid f/\RowKit.Hid g:=⟨ar m,ar n,ar o,ar p,ar q,ar r,ar s⟩
def oK {a b c d e f g h:Prop}(m:a)(n:b)(o:c)(p:d)(q:e)(r:f)(s:g)(t:h):RowKit.Hid a/\RowKit.Hid b/\RowKit.Hid c/\RowKit.Hid d/\RowKit.Hid e/\RowKit.Hid f/\RowKit.Hid g/\RowKit.Hid h:=⟨ar m,ar n,ar o,ar p,ar q,ar r,ar s,ar t⟩
def Pf {a b c d e f g h i:Prop}(m:a)(n:b)(o:c)(p:d)(q:e)(r:f)(s:g)(t:h)(u:i):RowKit.Hid a/\RowKit.Hid b/\RowKit.Hid c/\RowKit.Hid d/\RowKit.Hid e/\RowKit.Hid f/\RowKit.Hid g/\RowKit.Hid h/\RowKit.Hid i:=⟨ar m,ar n,ar o,ar p,ar q,ar r,ar s,ar t,ar u⟩
def Kc {a b c d e f g h i j:Prop}(m:a)(n:b)(o:c)(p:d)(q:e)(r:f)(s:g)(t:h)(u:i)(v:j):RowKit.Hid a/\RowKit.Hid b/\RowKit.Hid c/\RowKit.Hid d/\RowKit.Hid e/\RowKit.Hid f/\RowKit.Hid g/\RowKit.Hid h/\RowKit.Hid i/\RowKit.Hid j:=⟨ar m,ar n,ar o,ar p,ar q,ar r,ar s,ar t,ar u,ar v⟩
def auB {a b c d e f g h i j k:Prop}(m:a)(n:b)(o:c)(p:d)(q:e)(r:f)(s:g)(t:h)(u:i)(v:j)(w:k):RowKit.Hid a/\RowKit.Hid b/\RowKit.Hid c/\RowKit.Hid d/\RowKit.Hid e/\RowKit.Hid f/\RowKit.Hid g/\RowKit.Hid h/\RowKit.Hid i/\RowKit.Hid j/\RowKit.Hid k:=⟨ar m,ar n,ar o,ar p,ar q,ar r,ar s,ar t,ar u,ar v,ar w⟩
def gg {a b c d e f g h i j k l:Prop}(m:a)(n:b)(o:c)(p:d)(q:e)(r:f)(s:g)(t:h)(u:i)(v:j)(w:k)(x:l):RowKit.Hid a/\RowKit.Hid b/\RowKit.Hid c/\RowKit.Hid d/\RowKit.Hid e/\RowKit.Hid f/\RowKit.Hid g/\RowKit.Hid h/\RowKit.Hid i/\RowKit.Hid j/\RowKit.Hid k/\RowKit.Hid l:=⟨ar m,ar n,ar o,ar p,ar q,ar r,ar s,ar t,ar u,ar v,ar w,ar x⟩
section
variable {w:World} {b:Nat} {t:TypeId} {x0 x1 x2 x3:Value}
def au.c1 (h:au w b t [x0]):w.cell? ⟨b,0,none⟩=some x0:=h.cell 0
def au.c2 (h:au w b t [x0,x1]):w.cell? ⟨b,0,none⟩=some x0/\w.cell? ⟨b,1,none⟩=some x1:=⟨h.cell 0,h.cell 1⟩
def au.c3 (h:au w b t [x0,x1,x2]):w.cell? ⟨b,0,none⟩=some x0/\w.cell? ⟨b,1,none⟩=some x1/\w.cell? ⟨b,2,none⟩=some x2:=⟨h.cell 0,h.cell 1,h.cell 2⟩
def au.c4 (h:au w b t [x0,x1,x2,x3]):w.cell? ⟨b,0,none⟩=some x0/\w.cell? ⟨b,1,none⟩=some x1/\w.cell? ⟨b,2,none⟩=some x2/\w.cell? ⟨b,3,none⟩=some x3:=⟨h.cell 0,h.cell 1,h.cell 2,h.cell 3⟩
def au.g2 (h:au w b t [x0,x1]):w.cell? ⟨b,0,none⟩=some x0/\w.frozen? ⟨b,0,none⟩=false/\w.cell? ⟨b,1,none⟩=some x1/\w.frozen? ⟨b,1,none⟩=false:=⟨h.cell 0,h.free 0,h.cell 1,h.free 1⟩
def au.g3 (h:au w b t [x0,x1,x2]):w.cell? ⟨b,0,none⟩=some x0/\w.frozen? ⟨b,0,none⟩=false/\w.cell? ⟨b,1,none⟩=some x1/\w.frozen? ⟨b,1,none⟩=false/\w.cell? ⟨b,2,none⟩=some x2/\w.frozen? ⟨b,2,none⟩=false:=
 ⟨h.cell 0,h.free 0,h.cell 1,h.free 1,h.cell 2,h.free 2⟩
def au.g4 (h:au w b t [x0,x1,x2,x3]):w.cell? ⟨b,0,none⟩=some x0/\w.frozen? ⟨b,0,none⟩=false/\w.cell? ⟨b,1,none⟩=some x1/\w.frozen? ⟨b,1,none⟩=false/\w.cell? ⟨b,2,none⟩=some x2/\w.frozen? ⟨b,2,none⟩=false/\w.cell? ⟨b,3,none⟩=some x3/\w.frozen? ⟨b,3,none⟩=false:=
 ⟨h.cell 0,h.free 0,h.cell 1,h.free 1,h.cell 2,h.free 2,h.cell 3,h.free 3⟩
def au.c5 {x0 x1 x2 x3 x4:Value}(h:au w b t [x0,x1,x2,x3,x4]):w.cell? ⟨b,0,none⟩=some x0/\w.cell? ⟨b,1,none⟩=some x1/\w.cell? ⟨b,2,none⟩=some x2/\w.cell? ⟨b,3,none⟩=some x3/\w.cell? ⟨b,4,none⟩=some x4:=⟨h.cell 0,h.cell 1,h.cell 2,h.cell 3,h.cell 4⟩
def au.g5 {x0 x1 x2 x3 x4:Value}(h:au w b t [x0,x1,x2,x3,x4]):w.cell? ⟨b,0,none⟩=some x0/\w.frozen? ⟨b,0,none⟩=false/\w.cell? ⟨b,1,none⟩=some x1/\w.frozen? ⟨b,1,none⟩=false/\w.cell? ⟨b,2,none⟩=some x2/\w.frozen? ⟨b,2,none⟩=false/\w.cell? ⟨b,3,none⟩=some x3/\w.frozen? ⟨b,3,none⟩=false/\w.cell? ⟨b,4,none⟩=some x4/\w.frozen? ⟨b,4,none⟩=false:=⟨h.cell 0,h.free 0,h.cell 1,h.free 1,h.cell 2,h.free 2,h.cell 3,h.free 3,h.cell 4,h.free 4⟩
def au.c6 {x0 x1 x2 x3 x4 x5:Value}(h:au w b t [x0,x1,x2,x3,x4,x5]):w.cell? ⟨b,0,none⟩=some x0/\w.cell? ⟨b,1,none⟩=some x1/\w.cell? ⟨b,2,none⟩=some x2/\w.cell? ⟨b,3,none⟩=some x3/\w.cell? ⟨b,4,none⟩=some x4/\w.cell? ⟨b,5,none⟩=some x5:=⟨h.cell 0,h.cell 1,h.cell 2,h.cell 3,h.cell 4,h.cell 5⟩
def au.so {cs:List Value}(h:au w b t cs)(p i:Nat)(hne:p≠b)(v:Value):au (w.setCell ⟨p,i,none⟩ v) b t cs:=h.aFJ ⟨p,i,none⟩ hne v
def _root_.Go.RowKit.Below.sc {n:Nat}{w w':World}(h:Below n w w')(p i:Nat)(hp:n<=p)(v:Value):Below n w (w'.setCell ⟨p,i,none⟩ v):=h.setCell hp v
end
def grownBy_set {w:World}{a:Addr}(b:Nat)(hb:a.block=b)(v:Value):w.grownBy (w.setCell a v) (some b):=
 ⟨rfl,rfl,rfl,by simp[World.setCell],λk _ hk=>Below.heap_setCell _ _ _ _ (λe=>hk (by rw[e,hb]))⟩
def grownBy_trans {a b c:World}{r:Option Nat}(h:a.grownBy b r)(k:b.grownBy c r):a.grownBy c r:=
 ⟨k.os.trans h.os,k.tape.trans h.tape,k.output.trans h.output,Nat.le_trans h.size k.size,λi hi hn=>(k.block i (Nat.lt_of_lt_of_le hi h.size) hn).trans (h.block i hi hn)⟩
def grownBy_refl (w:World)(r:Option Nat):w.grownBy w r:=⟨rfl,rfl,rfl,Nat.le_refl _,λ_ _ _=>rfl⟩
def dc {w w':World}{r:Option Nat}(hg:w.grownBy w' r){a:Addr}{v:Value}(h:w.cell? a=some v)(hne:some a.block≠r):w'.cell? a=some v:=hg.cell h hne
def u64 (n:Nat):Value:=.int .u64 (n:Int)
def eN (w:World)(b o n v:Nat):Prop:=∀j,j<n->w.cell? ⟨b,o+j,none⟩=some (.int .u64 (dg v j:Int))
def eN.less {w:World}{b o n m v:Nat}(h:eN w b o n v)(hm:m<=n):eN w b o m v:=λj hj=>h j zo
def eN.below {w w':World}{b o n v:Nat}(h:eN w b o n v)(hb:Bw w w'):eN w' b o n v:=λj hj=>cell_later hb (h j hj)
def eN.grown {w w':World}{b o n v:Nat}{r:Option Nat}(h:eN w b o n v)(hb:w.grownBy w' r)(hne:some b≠r):eN w' b o n v:=λj hj=>hb.cell (h j hj) hne
def bU (n:Nat)(f:Nat->Nat):List Value:=(List.range n).map λj=>.int .u64 (f j:Int)
def AC (n:Nat)(f:Nat->Nat):(bU n f).length=n:=by simp[bU]
def iz (n:Nat)(f:Nat->Nat)(j:Nat)(h:j<n):(bU n f)[j]?=some (.int .u64 (f j:Int)):=by simp[bU,List.getElem?_range h]
def lU {n:Nat}{f g:Nat->Nat}(h:∀j,j<n->f j=g j):bU n f=bU n g:=by unfold bU;refine List.map_congr_left λj hj=>?_;rw[h j (by simpa using hj)]
def FA (n:Nat)(f:Nat->Nat)(i x:Nat):(bU n f).set i (.int .u64 (x:Int))=bU n (λj=>if j=i then x else f j):=by
 apply List.ext_getElem?;intro j;rw[List.getElem?_set,AC];by_cases h:j<n
 . rw[iz _ _ _ h,iz _ _ _ h];by_cases e:i=j
   . subst e;simp[h]
   . simp[e,Ne.symm e]
 . by_cases e:i=j
   . subst e;simp[bU,h]
   . simp[e,bU,h]
def bs (l:List UInt8):ByteArray:=⟨l.toArray⟩
def bi {w w':World}{b:Nat}{t:TypeId}{x0 x1:Value}(h:RowKit.Hid (au w b t [x0,x1]))(k:Bw w w'):RowKit.Hid (au w' b t [x0,x1])/\w'.cell? ⟨b,0,none⟩=some x0/\w'.cell? ⟨b,1,none⟩=some x1:=And.intro (kB h k)<|au.c2 (kB h k).out
def cm {w w':World}{b:Nat}{t:TypeId}{x0 x1 x2:Value}(h:RowKit.Hid (au w b t [x0,x1,x2]))(k:Bw w w'):RowKit.Hid (au w' b t [x0,x1,x2])/\w'.cell? ⟨b,0,none⟩=some x0/\w'.cell? ⟨b,1,none⟩=some x1/\w'.cell? ⟨b,2,none⟩=some x2:=And.intro (kB h k)<|au.c3 (kB h k).out
def dZ {w w':World}{b:Nat}{t:TypeId}{x0 x1 x2 x3:Value}(h:RowKit.Hid (au w b t [x0,x1,x2,x3]))(k:Bw w w'):RowKit.Hid (au w' b t [x0,x1,x2,x3])/\w'.cell? ⟨b,0,none⟩=some x0/\w'.cell? ⟨b,1,none⟩=some x1/\w'.cell? ⟨b,2,none⟩=some x2/\w'.cell? ⟨b,3,none⟩=some x3:=And.intro (kB h k)<|au.c4 (kB h k).out
def kR {w w':World}{b:Nat}{t:TypeId}{x0 x1 x2 x3 x4 x5:Value}(h:RowKit.Hid (au w b t [x0,x1,x2,x3,x4,x5]))(k:Bw w w'):RowKit.Hid (au w' b t [x0,x1,x2,x3,x4,x5])/\w'.cell? ⟨b,0,none⟩=some x0/\w'.cell? ⟨b,1,none⟩=some x1/\w'.cell? ⟨b,2,none⟩=some x2/\w'.cell? ⟨b,3,none⟩=some x3/\w'.cell? ⟨b,4,none⟩=some x4/\w'.cell? ⟨b,5,none⟩=some x5:=And.intro (kB h k)<|au.c6 (kB h k).out
def bA {w w':World}{b:Nat}{t:TypeId}{x0 x1:Value}(h:RowKit.Hid (au w b t [x0,x1]))(k:Bw w w'):RowKit.Hid (au w' b t [x0,x1])/\w'.cell? ⟨b,0,none⟩=some x0/\w'.frozen? ⟨b,0,none⟩=false/\w'.cell? ⟨b,1,none⟩=some x1/\w'.frozen? ⟨b,1,none⟩=false:=And.intro (kB h k)<|au.g2 (kB h k).out
def bg {w w':World}{b:Nat}{t:TypeId}{x0 x1 x2:Value}(h:RowKit.Hid (au w b t [x0,x1,x2]))(k:Bw w w'):RowKit.Hid (au w' b t [x0,x1,x2])/\w'.cell? ⟨b,0,none⟩=some x0/\w'.frozen? ⟨b,0,none⟩=false/\w'.cell? ⟨b,1,none⟩=some x1/\w'.frozen? ⟨b,1,none⟩=false/\w'.cell? ⟨b,2,none⟩=some x2/\w'.frozen? ⟨b,2,none⟩=false:=And.intro (kB h k)<|au.g3 (kB h k).out
abbrev ai (l:List UInt8):Value:=.string (bs l)
abbrev ah (x:Int):Value:=.int .i64 x
abbrev aj (x:Bool):Value:=.bool x
abbrev aF (w:World)(b o:Nat)(v:Value):Prop:=w.cell? ⟨b,o,none⟩=some v
def hbz (w:World):Hid (Bw w w):=Below.refl _ _
def bI {p:Prop}(h:p:=by simp[intOf];omega):p:=h
abbrev Cl:=Calls Tryz.prog
abbrev Cv (f:FuncId)(a:Array Value)(w:World)(v:Value):=Calls Tryz.prog f a w λe w'=>e=.returned v/\Bw w w'
end Go.Proofs.YtnjfebkelecgaaaGreatDoor
