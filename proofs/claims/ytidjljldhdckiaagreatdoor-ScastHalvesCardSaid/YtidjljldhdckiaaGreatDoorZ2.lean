/- Small facts on worlds that the walks share. -/
import Derived.Test.YtidjljldhdckiaaGreatDoorProg
import Derived.Test.YtidjljldhdckiaaGreatDoorZ1
import Derived.WalkKit
import Derived.WalkSpells
import Derived.WalkLawsBesides
import Derived.Lib.Hide
import Derived.BigQuiet
import Derived.Deep.QuietTactic
import Derived.Deep.LoopGhost
import Derived.Deep.DeepFit
set_option maxRecDepth 100000
set_option maxHeartbeats 16000000
namespace Go.Proofs.YtidjljldhdckiaaGreatDoor
open Go.RowKit
def Blk (w : World) (b : Nat) (t : TypeId) (cs : List Value) : Prop:=w.heap[b]? = some (.cells cs.toArray t (0,0))
theorem Blk.lt {w : World} {b : Nat} {t : TypeId} {cs : List Value} (h : Blk w b t cs) : b < w.heap.size:=lt_of_block h
theorem Blk.cell {w : World} {b : Nat} {t : TypeId} {cs : List Value} (h : Blk w b t cs) (j : Nat) : w.cell? ⟨b,j,none⟩ = cs[j]?:=by
 unfold Blk at h;simp [World.cell?,h]
theorem Blk.free {w : World} {b : Nat} {t : TypeId} {cs : List Value} (h : Blk w b t cs) (j : Nat) : w.frozen? ⟨b,j,none⟩ = false:=by
 unfold Blk at h;simp [World.frozen?,h]
theorem Blk.set {w : World} {b : Nat} {t : TypeId} {cs : List Value} (h : Blk w b t cs) (j : Nat) (v : Value) : Blk (w.setCell ⟨b,j,none⟩ v) b t (cs.set j v):=by
 unfold Blk at *
 simp [World.setCell,Array.getElem?_modify,h]
theorem Blk.set_other {w : World} {b : Nat} {t : TypeId} {cs : List Value} (h : Blk w b t cs) (a : Addr) (hne : a.block ≠ b) (v : Value) : Blk (w.setCell a v) b t cs:=by
 unfold Blk at *
 rw [Below.heap_setCell _ _ _ _ (fun e=>hne e.symm)];exact h
theorem Blk.drew {w : World} {b : Nat} {t : TypeId} {cs : List Value} (h : Blk w b t cs) : Blk w.drew b t cs:=h
theorem Blk.alloc {w : World} {b : Nat} {t : TypeId} {cs : List Value} (h : Blk w b t cs) (o : Obj) : Blk (w.alloc o) b t cs:=by
 have:=h.lt
 unfold Blk at *
 rw [Below.heap_alloc _ _ _ this];exact h
theorem Blk.new (w : World) (t : TypeId) (cs : List Value) : Blk (w.alloc (.cells cs.toArray t)) w.heap.size t cs:=heap_alloc_new w _
theorem Blk.below {w w' : World} {b : Nat} {t : TypeId} {cs : List Value} (h : Blk w b t cs) (hb : Below w.heap.size w w') : Blk w' b t cs:=by
 have:=h.lt
 unfold Blk at *
 rw [hb.block b this];exact h
theorem Blk.grown {w w' : World} {b : Nat} {t : TypeId} {cs : List Value} {r : Option Nat} (h : Blk w b t cs) (hb : w.grownBy w' r) (hne : some b ≠ r) : Blk w' b t cs:=by
 have:=h.lt
 unfold Blk at *
 rw [hb.block b this hne];exact h
theorem kB {w w' : World} {b : Nat} {t : TypeId} {cs : List Value} (h : RowKit.Hid (Blk w b t cs)) (k : Below w.heap.size w w') : RowKit.Hid (Blk w' b t cs):=h.out.below k
theorem nw1 {w : World} {t : TypeId} {cs : List Value} : Blk (w.alloc (.cells cs.toArray t)) w.heap.size t cs /\ Below w.heap.size w (w.alloc (.cells cs.toArray t)):=⟨Blk.new _ _ _,(Below.refl _ _).alloc (Nat.le_refl _) _⟩
theorem nw2 {w : World} {t : TypeId} {cs : List Value} : Blk (w.alloc (.cells cs.toArray t)).drew w.heap.size t cs /\ Below w.heap.size w (w.alloc (.cells cs.toArray t)).drew:=⟨Blk.new w t cs,((Below.refl _ _).alloc (Nat.le_refl _) _).drew⟩
theorem lid {p : Prop} (h : p) : RowKit.Hid p:=Lib.hid h
section
variable {w : World} {b : Nat} {t : TypeId} {x0 x1 x2 x3 : Value}
theorem Blk.c1 (h : Blk w b t [x0]) : w.cell? ⟨b,0,none⟩ = some x0:=h.cell 0
theorem Blk.c2 (h : Blk w b t [x0,x1]) : w.cell? ⟨b,0,none⟩ = some x0 /\ w.cell? ⟨b,1,none⟩ = some x1:=⟨h.cell 0,h.cell 1⟩
theorem Blk.c3 (h : Blk w b t [x0,x1,x2]) : w.cell? ⟨b,0,none⟩ = some x0 /\ w.cell? ⟨b,1,none⟩ = some x1 /\ w.cell? ⟨b,2,none⟩ = some x2:=⟨h.cell 0,h.cell 1,h.cell 2⟩
theorem Blk.c4 (h : Blk w b t [x0,x1,x2,x3]) : w.cell? ⟨b,0,none⟩ = some x0 /\ w.cell? ⟨b,1,none⟩ = some x1 /\ w.cell? ⟨b,2,none⟩ = some x2 /\ w.cell? ⟨b,3,none⟩ = some x3:=⟨h.cell 0,h.cell 1,h.cell 2,h.cell 3⟩
theorem Blk.g1 (h : Blk w b t [x0]) : w.cell? ⟨b,0,none⟩ = some x0 /\ w.frozen? ⟨b,0,none⟩ = false:=⟨h.cell 0,h.free 0⟩
theorem Blk.g2 (h : Blk w b t [x0,x1]) : w.cell? ⟨b,0,none⟩ = some x0 /\ w.frozen? ⟨b,0,none⟩ = false /\ w.cell? ⟨b,1,none⟩ = some x1 /\ w.frozen? ⟨b,1,none⟩ = false:=⟨h.cell 0,h.free 0,h.cell 1,h.free 1⟩
theorem Blk.g3 (h : Blk w b t [x0,x1,x2]) : w.cell? ⟨b,0,none⟩ = some x0 /\ w.frozen? ⟨b,0,none⟩ = false /\ w.cell? ⟨b,1,none⟩ = some x1 /\ w.frozen? ⟨b,1,none⟩ = false /\ w.cell? ⟨b,2,none⟩ = some x2 /\ w.frozen? ⟨b,2,none⟩ = false:=
 ⟨h.cell 0,h.free 0,h.cell 1,h.free 1,h.cell 2,h.free 2⟩
theorem Blk.g4 (h : Blk w b t [x0,x1,x2,x3]) : w.cell? ⟨b,0,none⟩ = some x0 /\ w.frozen? ⟨b,0,none⟩ = false /\ w.cell? ⟨b,1,none⟩ = some x1 /\ w.frozen? ⟨b,1,none⟩ = false /\ w.cell? ⟨b,2,none⟩ = some x2 /\ w.frozen? ⟨b,2,none⟩ = false /\ w.cell? ⟨b,3,none⟩ = some x3 /\ w.frozen? ⟨b,3,none⟩ = false:=
 ⟨h.cell 0,h.free 0,h.cell 1,h.free 1,h.cell 2,h.free 2,h.cell 3,h.free 3⟩
theorem Blk.c5 {x0 x1 x2 x3 x4 : Value} (h : Blk w b t [x0,x1,x2,x3,x4]) : w.cell? ⟨b,0,none⟩ = some x0 /\ w.cell? ⟨b,1,none⟩ = some x1 /\ w.cell? ⟨b,2,none⟩ = some x2 /\ w.cell? ⟨b,3,none⟩ = some x3 /\ w.cell? ⟨b,4,none⟩ = some x4:=⟨h.cell 0,h.cell 1,h.cell 2,h.cell 3,h.cell 4⟩
theorem Blk.g5 {x0 x1 x2 x3 x4 : Value} (h : Blk w b t [x0,x1,x2,x3,x4]) : w.cell? ⟨b,0,none⟩ = some x0 /\ w.frozen? ⟨b,0,none⟩ = false /\ w.cell? ⟨b,1,none⟩ = some x1 /\ w.frozen? ⟨b,1,none⟩ = false /\ w.cell? ⟨b,2,none⟩ = some x2 /\ w.frozen? ⟨b,2,none⟩ = false /\ w.cell? ⟨b,3,none⟩ = some x3 /\ w.frozen? ⟨b,3,none⟩ = false /\ w.cell? ⟨b,4,none⟩ = some x4 /\ w.frozen? ⟨b,4,none⟩ = false:=⟨h.cell 0,h.free 0,h.cell 1,h.free 1,h.cell 2,h.free 2,h.cell 3,h.free 3,h.cell 4,h.free 4⟩
theorem Blk.c6 {x0 x1 x2 x3 x4 x5 : Value} (h : Blk w b t [x0,x1,x2,x3,x4,x5]) : w.cell? ⟨b,0,none⟩ = some x0 /\ w.cell? ⟨b,1,none⟩ = some x1 /\ w.cell? ⟨b,2,none⟩ = some x2 /\ w.cell? ⟨b,3,none⟩ = some x3 /\ w.cell? ⟨b,4,none⟩ = some x4 /\ w.cell? ⟨b,5,none⟩ = some x5:=⟨h.cell 0,h.cell 1,h.cell 2,h.cell 3,h.cell 4,h.cell 5⟩
theorem Blk.so {cs : List Value} (h : Blk w b t cs) (p i : Nat) (hne : p ≠ b) (v : Value) : Blk (w.setCell ⟨p,i,none⟩ v) b t cs:=h.set_other ⟨p,i,none⟩ hne v
theorem _root_.Go.RowKit.Below.sc {n : Nat} {w w' : World} (h : Below n w w') (p i : Nat) (hp : n <= p) (v : Value) : Below n w (w'.setCell ⟨p,i,none⟩ v):=h.setCell hp v
end
theorem grownBy_set {w : World} {a : Addr} (b : Nat) (hb : a.block = b) (v : Value) : w.grownBy (w.setCell a v) (some b):=
 ⟨rfl,rfl,rfl,by simp [World.setCell],fun k _ hk=>Below.heap_setCell _ _ _ _ (fun e=>hk (by rw [e,hb]))⟩
theorem grownBy_trans {a b c : World} {r : Option Nat} (h : a.grownBy b r) (k : b.grownBy c r) : a.grownBy c r:=
 ⟨k.os.trans h.os,k.tape.trans h.tape,k.output.trans h.output,Nat.le_trans h.size k.size,fun i hi hn=>(k.block i (Nat.lt_of_lt_of_le hi h.size) hn).trans (h.block i hi hn)⟩
theorem grownBy_refl (w : World) (r : Option Nat) : w.grownBy w r:=⟨rfl,rfl,rfl,Nat.le_refl _,fun _ _ _=>rfl⟩
theorem grownBy_cell {w w' : World} {r : Option Nat} (hg : w.grownBy w' r) {a : Addr} {v : Value} (h : w.cell? a = some v) (hne : some a.block ≠ r) : w'.cell? a = some v:=hg.cell h hne
def u64 (n : Nat) : Value:=.int .u64 (n : Int)
def LimAt (w : World) (b o n v : Nat) : Prop:=∀ j,j < n -> w.cell? ⟨b,o + j,none⟩ = some (.int .u64 (dg v j : Int))
theorem LimAt.less {w : World} {b o n m v : Nat} (h : LimAt w b o n v) (hm : m <= n) : LimAt w b o m v:=fun j hj=>h j (by omega)
theorem LimAt.below {w w' : World} {b o n v : Nat} (h : LimAt w b o n v) (hb : Below w.heap.size w w') : LimAt w' b o n v:=fun j hj=>cell_later hb (h j hj)
theorem LimAt.grown {w w' : World} {b o n v : Nat} {r : Option Nat} (h : LimAt w b o n v) (hb : w.grownBy w' r) (hne : some b ≠ r) : LimAt w' b o n v:=fun j hj=>hb.cell (h j hj) hne
def uls (n : Nat) (f : Nat -> Nat) : List Value:=(List.range n).map fun j=>.int .u64 (f j : Int)
theorem uls_length (n : Nat) (f : Nat -> Nat) : (uls n f).length = n:=by simp [uls]
theorem uls_get (n : Nat) (f : Nat -> Nat) (j : Nat) (h : j < n) : (uls n f)[j]? = some (.int .u64 (f j : Int)):=by
 simp [uls,List.getElem?_range h]
theorem uls_congr {n : Nat} {f g : Nat -> Nat} (h : ∀ j,j < n -> f j = g j) : uls n f = uls n g:=by
 unfold uls
 refine List.map_congr_left fun j hj=>?_
 rw [h j (by simpa using hj)]
theorem uls_set (n : Nat) (f : Nat -> Nat) (i x : Nat) : (uls n f).set i (.int .u64 (x : Int)) = uls n (fun j=>if j = i then x else f j):=by
 apply List.ext_getElem?
 intro j
 rw [List.getElem?_set,uls_length]
 by_cases h : j < n
 . rw [uls_get _ _ _ h,uls_get _ _ _ h]
   by_cases e : i = j
   . subst e;simp [h]
   . simp [e,Ne.symm e]
 . by_cases e : i = j
   . subst e;simp [uls,h]
   . simp [e,uls,h]
end Go.Proofs.YtidjljldhdckiaaGreatDoor
