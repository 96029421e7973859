/- Package simp: To,where it answers an error. -/
import Derived.Test.YtpfgffadgkkedaaGreatDoorZ25
import Derived.Test.YtpfgffadgkkedaaGreatDoorZ13
import Derived.Test.YtpfgffadgkkedaaGreatDoorZ18
import Derived.Test.YtpfgffadgkkedaaGreatDoorZ12
set_option linter.all false
set_option maxRecDepth 100000
set_option maxHeartbeats 16000000
namespace Go.Proofs.YtpfgffadgkkedaaGreatDoor
open Go.RowKit
attribute [local go_sem ↓] Go.wp_at_zero Go.wp_at_succ
end Go.Proofs.YtpfgffadgkkedaaGreatDoor
