import Derived.Test.YtnlhpkbphdbknaaGreatDoorRB
import Derived.Test.YtnlhpkbphdbknaaGreatDoorRO
import Derived.Test.YtnlhpkbphdbknaaGreatDoorRN
import Derived.Test.YtnlhpkbphdbknaaGreatDoorRG
namespace Go.Proofs.YtnlhpkbphdbknaaGreatDoor
open Go.RowKit
attribute [local irreducible] OpRel OpdR
set_option maxRecDepth 10000
set_option maxHeartbeats 1600000
open Go.RowKit
set_option maxRecDepth 10000
set_option maxHeartbeats 1600000
end Go.Proofs.YtnlhpkbphdbknaaGreatDoor
