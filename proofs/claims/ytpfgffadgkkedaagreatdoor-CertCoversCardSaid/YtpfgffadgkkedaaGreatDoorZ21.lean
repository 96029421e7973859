/- Package simp: rows,as an iterator. -/
import Derived.Test.YtpfgffadgkkedaaGreatDoorZ10
import Derived.Test.YtpfgffadgkkedaaGreatDoorZ5
import Derived.Shelf.Abstract
import Derived.Shelf.RegionOpen
import Derived.WalkKit
import Derived.OwnWalkIn
import Derived.TacticsInMore
import Derived.LoopNIn
import Derived.LoopIn
set_option linter.all false
set_option maxRecDepth 100000
set_option maxHeartbeats 16000000
namespace Go.Proofs.YtpfgffadgkkedaaGreatDoor
open Go.RowKit Go.Shelf
abbrev ex (x:List Nat):ByteArray:=bs (x.map UInt8.ofNat)
attribute [local go_sem] Oper.semAt_some
end Go.Proofs.YtpfgffadgkkedaaGreatDoor
namespace Go.Proofs.YtpfgffadgkkedaaGreatDoor
open Go.RowKit Go.Shelf
attribute [local go_sem] Oper.semAt_some
end Go.Proofs.YtpfgffadgkkedaaGreatDoor
namespace Go.Proofs.YtpfgffadgkkedaaGreatDoor
open Go.RowKit
attribute [local go_sem ↓] Go.wp_at_zero Go.wp_at_succ
def cnt :Nat->Nat->Nat
 |0,_=>1
 |_+1,0=>1
 |i+1,s+1=>cnt (i+1) s+cnt i (s+1)
 termination_by i s=>i+s
end Go.Proofs.YtpfgffadgkkedaaGreatDoor
