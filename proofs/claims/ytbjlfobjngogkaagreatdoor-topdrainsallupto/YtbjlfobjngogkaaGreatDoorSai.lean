/- Part of a proof over this seat: contracts of functions and plain laws, joined by program out of smaller texts. Conditions: those that each theorem states. -/
import Derived.Test.YtbjlfobjngogkaaGreatDoorSah
import Derived.Test.YtbjlfobjngogkaaGreatDoorRows
import Derived.JoinedCond
import Derived.KernelRfl
import Derived.ProofKit
import Derived.OpenShut
namespace Go.Proofs.YtbjlfobjngogkaaGreatDoor
open Go Go.RowKit Go.ChangeShapes Go.WideShapes Go.ChangeAt
set_option maxRecDepth 100000
theorem j_2:laidOutB Tryz.prog=true:=by kernel_rfl
theorem j_3:mapsRowed Tryz.prog=true:=by kernel_rfl
theorem j_7:(Tryz.prog.stops == [])=true:=by kernel_rfl
theorem j_9:(Tryz.prog.stopKnobs == [])=true:=by kernel_rfl
theorem j_25:Tryz.prog.stopsHeard=true:=by kernel_rfl
theorem j_26:Tryz.prog.mayEnter=true:=by kernel_rfl
theorem j_and {a b:Bool} (ha:a=true) (hb:b=true):(a&&b)=true:=by rw [ha,hb];rfl
end Go.Proofs.YtbjlfobjngogkaaGreatDoor
