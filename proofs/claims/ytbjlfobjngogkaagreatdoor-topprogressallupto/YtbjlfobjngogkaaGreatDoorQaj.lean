/- Part of a proof over this seat: contracts of functions and plain laws, joined by program out of smaller texts. Conditions: those that each theorem states. -/
import Derived.Test.YtbjlfobjngogkaaGreatDoorQai
import Derived.Test.YtbjlfobjngogkaaGreatDoorRows
import Derived.JoinedCond
import Derived.KernelRfl
import Derived.ProofKit
import Derived.OpenShut
namespace Go.Proofs.YtbjlfobjngogkaaGreatDoor
open Go Go.RowKit Go.ChangeShapes Go.WideShapes Go.ChangeAt
set_option maxRecDepth 100000
theorem j3_1:Rows.topProgressAllUptoRow.wf (OpenSpec.ofChange (Rows.OpenSpec.upto Rows.topProgressAllSpec).bare)=true:=by kernel_rfl
theorem j3_4:Tryz.f3.params.all (Tryz.prog.readableRec ·)=true:=by kernel_rfl
theorem j3_5:namedTie Tryz.prog Rows.topProgressAllUptoRow.named (Rows.OpenSpec.upto Rows.topProgressAllSpec).bare.vars=true:=by kernel_rfl
theorem j3_6:(Rows.topProgressAllUptoRow.stops == [])=true:=by kernel_rfl
theorem j3_8:(Rows.topProgressAllUptoRow.knobs == [])=true:=by kernel_rfl
theorem j3_10:(Rows.topProgressAllUptoRow.inPlace == Tryz.prog.inPlace 3)=true:=by kernel_rfl
theorem j3_11:(Rows.topProgressAllUptoRow.unfollowed == Tryz.prog.unfollowed 3)=true:=by kernel_rfl
theorem j3_12:(Rows.topProgressAllUptoRow.recurses == Tryz.prog.recurses 3)=true:=by kernel_rfl
theorem j3_13:(Rows.topProgressAllUptoRow.named == Tryz.prog.varsNamed 3)=true:=by kernel_rfl
theorem j3_14:(Rows.topProgressAllUptoRow.maps == (Tryz.f3.params.toList++(Rows.OpenSpec.upto Rows.topProgressAllSpec).bare.plain.varTypes Tryz.prog).any (Tryz.prog.mapsRec ·))=true:=by kernel_rfl
theorem j3_15:(Rows.topProgressAllUptoRow.ifaces == (Tryz.f3.params.toList++(Rows.OpenSpec.upto Rows.topProgressAllSpec).bare.plain.varTypes Tryz.prog).any (Tryz.prog.ifacesRec ·))=true:=by kernel_rfl
theorem j3_16:(Rows.topProgressAllUptoRow.mapsOut == Tryz.prog.mapsAmong Tryz.f3.resultTypes.toList)=true:=by kernel_rfl
theorem j3_17:(Rows.topProgressAllUptoRow.loops == (Tryz.f3.params.toList++(Rows.OpenSpec.upto Rows.topProgressAllSpec).bare.plain.varTypes Tryz.prog).any (Tryz.prog.loopsFrom ·))=true:=by kernel_rfl
theorem j3_18:(Rows.topProgressAllUptoRow.wideKeys == (Tryz.f3.params.toList++(Rows.OpenSpec.upto Rows.topProgressAllSpec).bare.plain.varTypes Tryz.prog++Tryz.f3.resultTypes.toList).any (Tryz.prog.wideKeysFrom ·))=true:=by kernel_rfl
theorem j3_19:(Rows.OpenSpec.upto Rows.topProgressAllSpec).bare.vars.all (Tryz.prog.varReadable ·)=true:=by kernel_rfl
theorem j3_20:Tryz.f3.resultTypes.all (fun t=>Tryz.prog.readableRec t&&decide (t<Tryz.prog.types.size))=true:=by kernel_rfl
theorem j3_21:(Rows.topProgressAllUptoRow.ifacesOut == Tryz.f3.resultTypes.toList.any (Tryz.prog.ifacesRec ·))=true:=by kernel_rfl
theorem j3_22:(Rows.topProgressAllUptoRow.loopsOut == Tryz.f3.resultTypes.toList.any (Tryz.prog.loopsFrom ·))=true:=by kernel_rfl
theorem j3_23:(Rows.topProgressAllUptoRow.plainKeys == Tryz.prog.plainKeys)=true:=by kernel_rfl
theorem j3_24:Rows.topProgressAllUptoRow.shortTexts.isNone=true:=by kernel_rfl
theorem j3_27:(Rows.topProgressAllUptoRow.lifted == Tryz.prog.liftsFinal)=true:=by kernel_rfl
theorem j3_28:(Tryz.prog.make == some Rows.topProgressAllUptoRow.make)=true:=by kernel_rfl
theorem j3_29:(Rows.topProgressAllUptoRow.kinds == (if Rows.topProgressAllUptoRow.domain.isEmpty then []else Tryz.f3.params.toList.map fun t=>match Tryz.prog.underlying t with | some (.int k)=>some k | _=>none))=true:=by kernel_rfl
theorem j3_30:(Rows.topProgressAllUptoRow.pinned == Rows.topProgressAllUptoRow.pinnedBy)=true:=by kernel_rfl
theorem j3_31:(Rows.topProgressAllUptoRow.veiled == (Tryz.f3.params.toList++(Rows.OpenSpec.upto Rows.topProgressAllSpec).bare.plain.varTypes Tryz.prog++Tryz.f3.resultTypes.toList).any (Tryz.prog.veiledRec ·))=true:=by kernel_rfl
theorem j3_32:Rows.topProgressAllUptoRow.veiledFits Tryz.prog Tryz.f3.params.toList (Tryz.f3.params.toList++(Rows.OpenSpec.upto Rows.topProgressAllSpec).bare.plain.varTypes Tryz.prog++Tryz.f3.resultTypes.toList)=true:=by kernel_rfl
theorem closed3:joinedFacts Tryz.prog 3 Tryz.f3 (Rows.OpenSpec.upto Rows.topProgressAllSpec).bare Rows.topProgressAllUptoRow=true:=j_and (j_and (j_and (j_and (j_and (j_and (j_and (j_and (j_and (j_and (j_and (j_and (j_and (j_and (j_and (j_and (j_and (j_and (j_and (j_and (j_and (j_and (j_and (j_and (j_and (j_and (j_and (j_and (j_and (j_and (j_and (j3_1) j_2) j_3) j3_4) j3_5) j3_6) j_7) j3_8) j_9) j3_10) j3_11) j3_12) j3_13) j3_14) j3_15) j3_16) j3_17) j3_18) j3_19) j3_20) j3_21) j3_22) j3_23) j3_24) j_25) j_26) j3_27) j3_28) j3_29) j3_30) j3_31) j3_32
end Go.Proofs.YtbjlfobjngogkaaGreatDoor
