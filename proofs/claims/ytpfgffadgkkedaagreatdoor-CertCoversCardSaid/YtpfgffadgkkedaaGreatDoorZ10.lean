/- A range over a function whose iterator writes cells of its own: a contract by footprints,and its law. No program here. -/
import Derived.RangeFuncNested
import Derived.RangeFuncBound
import Derived.RangeFuncCalls
import Derived.RangeFuncLeaves
import Derived.Test.YtpfgffadgkkedaaGreatDoorZ6
set_option linter.all false
set_option maxRecDepth 100000
set_option maxHeartbeats 16000000
namespace Go.Proofs.YtpfgffadgkkedaaGreatDoor
open Go.RowKit
structure Chg (Y:Nat->Prop)(W W':World):Prop where
 os:W'.os=W.os
 tape:W'.tape=W.tape
 output:W'.output=W.output
 size:W.heap.size<=W'.heap.size
 block:∀k,k<W.heap.size->¬Y k->W'.heap[k]?=W.heap[k]?
def Chg.refl (Y:Nat->Prop)(W:World):Chg Y W W:=⟨rfl,rfl,rfl,Nat.le_refl _,λ_ _ _=>rfl⟩
def Chg.az8 {Y:Nat->Prop}{W W':World}{r:Option Nat}(h:W.grownBy W' r)(hr:∀b,r=some b->Y b):Chg Y W W':=
 ⟨h.os,h.tape,h.output,h.size,λk hk hy=>h.block k hk (λe=>hy (hr k e.symm))⟩
def Chg.trans {Y Z:Nat->Prop}{A B C:World}(h:Chg Y A B)(k:Chg Z B C)(hz:∀b,Z b->Y b\/A.heap.size<=b):Chg Y A C:=
 ⟨k.os.trans h.os,k.tape.trans h.tape,k.output.trans h.output,Nat.le_trans h.size k.size,λi hi hy=>by
  refine(k.block i (Nat.lt_of_lt_of_le hi h.size) (λhz'=>?_)).trans (h.block i hi hy);rcases hz i hz' with h1|h1
  . exact hy h1
  . omega⟩
def Chg.mono {Y Z:Nat->Prop}{A B:World}(h:Chg Y A B)(hz:∀b,b<A.heap.size->Y b->Z b):Chg Z A B:=
 ⟨h.os,h.tape,h.output,h.size,λi hi hy=>h.block i hi (λh1=>hy (hz i hi h1))⟩
def Chg.below {Y:Nat->Prop}{n:Nat}{A B:World}(h:Chg Y A B)(hn:n<=A.heap.size)(hy:∀b,Y b->n<=b):Below n A B:=
 ⟨h.os,h.tape,h.output,h.size,λk hk=>h.block k zo (λh1=>by have:=hy k h1;omega)⟩
def Chg.cell {Y:Nat->Prop}{A B:World}(h:Chg Y A B){a:Addr}{v:Value}(hc:A.cell? a=some v)(hy:¬Y a.block):B.cell? a=some v:=
 (World.cell?_of_block (h.block _ (World.block_lt_of_cell? A a hc) hy)).trans hc
def Chg.frozen {Y:Nat->Prop}{A B:World}(h:Chg Y A B){a:Addr}{v:Value}(hc:A.cell? a=some v)(hy:¬Y a.block):B.frozen? a=A.frozen? a:=
 World.frozen?_of_block (h.block _ (World.block_lt_of_cell? A a hc) hy)
def Chg.of_below {Y:Nat->Prop}{A B:World}(h:Bw A B):Chg Y A B:=⟨h.os,h.tape,h.output,h.size,λk hk _=>h.block k hk⟩
def Chg.blk {Y:Nat->Prop}{A B:World}(h:Chg Y A B){b:Nat}{t:TypeId}{cs:List Value}(hb:ar A b t cs)(hy:¬Y b):ar B b t cs:=by have:=h.block b hb.lt hy;unfold ar at hb⊢;rw[this];exact hb
end Go.Proofs.YtpfgffadgkkedaaGreatDoor
