import Derived.Test.YtpmkkijamfgaeaaGreatDoorRB
import Derived.Test.YtpmkkijamfgaeaaGreatDoorRO
import Derived.Test.YtpmkkijamfgaeaaGreatDoorRJ
namespace Go.Proofs.YtpmkkijamfgaeaaGreatDoor
open Go.RowKit Tryz
attribute [local irreducible] OpRel OpdR
set_option maxRecDepth 10000
set_option maxHeartbeats 1600000
theorem kF158_6:fldB prog 158 6 6=true:=by kernel_rfl
theorem kF158_5:fldB prog 158 5 5=true:=by kernel_rfl
theorem kF158_4:fldB prog 158 4 4=true:=by kernel_rfl
theorem kN194:fnB prog 194=true:=by kernel_rfl
instance iF158_2MbC:FldO prog 158 2 2:=⟨kF158_2⟩
instance iF158_4MbC:FldO prog 158 4 4:=⟨kF158_4⟩
instance iF158_5MbC:FldO prog 158 5 5:=⟨kF158_5⟩
instance iF158_6MbC:FldO prog 158 6 6:=⟨kF158_6⟩
instance iF189_1MbC:FldO prog 189 1 1:=⟨kF189_1⟩
instance iF98_0MbC:FldO prog 98 0 0:=⟨zbU⟩
instance iF98_1MbC:FldO prog 98 1 1:=⟨kF98_1⟩
instance iF98_3MbC:FldO prog 98 3 3:=⟨kF98_3⟩
instance iF98_4MbC:FldO prog 98 4 4:=⟨kF98_4⟩
instance iF98_5MbC:FldO prog 98 5 5:=⟨zbV⟩
open Go.RowKit Tryz
set_option maxRecDepth 10000
set_option maxHeartbeats 1600000
def scc:Nat->Rec
 | 0=>Rec.no
 | n+1=>⟨wS (scc n),jm (scc n),yj (scc n)⟩
theorem scc_ok:∀ n,(scc n).ok
 | 0=>Rec.no_ok
 | n+1=>⟨(λ h=>J3 (scc_ok n) h),(λ h=>QM (scc_ok n) h),(λ h=>zbg (scc_ok n) h)⟩
open Go.RowKit Tryz
set_option maxRecDepth 10000
set_option maxHeartbeats 1600000
end Go.Proofs.YtpmkkijamfgaeaaGreatDoor
