/-
  Models of functions, and their walks: printed by a program of our own (wip/mxo.py).
  Models of functions, and their walks: printed by a program of our own (wip/mxo.py).
-/
import Derived.Test.YtiiiokblnnlapaaGreatDoorRBLD
import Derived.Test.YtiiiokblnnlapaaGreatDoorRNLD
import Derived.Test.YtiiiokblnnlapaaGreatDoorRGLD
import Derived.Test.YtiiiokblnnlapaaGreatDoorROLD
namespace Go.Proofs.YtiiiokblnnlapaaGreatDoor
open Go.RowKit
attribute [local irreducible] OpRel OpdR
set_option maxRecDepth 10000
set_option maxHeartbeats 1600000
theorem kE92:elB Tryz.prog 92 173 5 56=true:=by kernel_rfl
theorem kE28:elB Tryz.prog 28 94 6 80=true:=by kernel_rfl
theorem kZ30:y9 Tryz.prog 30=some X4:=by kernel_rfl
theorem kS36:slB Tryz.prog 36 1=true:=by kernel_rfl
open Go.RowKit
set_option maxRecDepth 10000
set_option maxHeartbeats 1600000
end Go.Proofs.YtiiiokblnnlapaaGreatDoor
