import Derived.Test.YtmenakmafojpaaaGreatDoorRB
import Derived.Test.YtmenakmafojpaaaGreatDoorRO
import Derived.Test.YtmenakmafojpaaaGreatDoorRN
import Derived.Test.YtmenakmafojpaaaGreatDoorRG
namespace Go.Proofs.YtmenakmafojpaaaGreatDoor
open Go.RowKit
attribute [local irreducible] OpRel OpdR
set_option maxRecDepth 10000
set_option maxHeartbeats 1600000
open Go.RowKit
set_option maxRecDepth 10000
set_option maxHeartbeats 1600000
end Go.Proofs.YtmenakmafojpaaaGreatDoor
