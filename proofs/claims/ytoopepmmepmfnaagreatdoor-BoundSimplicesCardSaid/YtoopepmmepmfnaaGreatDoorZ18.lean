/- The reference of chapters 5 and 11: Form,Width,Mid;Check,Form,Same. -/
import Derived.Test.YtoopepmmepmfnaaGreatDoorZ13
import Derived.Test.YtoopepmmepmfnaaGreatDoorZ16
import Derived.Test.YtoopepmmepmfnaaGreatDoorZ14
set_option linter.unusedVariables false
set_option linter.unusedSimpArgs false
set_option maxRecDepth 100000
set_option maxHeartbeats 16000000
namespace Go.Proofs.YtoopepmmepmfnaaGreatDoor
open Go.RowKit
attribute [local go_sem ↓] Go.wp_at_zero Go.wp_at_succ
theorem akn {B:Nat}{x:Raw}(h:ey B x)(hB:B<=16384):dv (canon (-az x)):=(Sm.neg h.2).aw1 hB
end Go.Proofs.YtoopepmmepmfnaaGreatDoor
