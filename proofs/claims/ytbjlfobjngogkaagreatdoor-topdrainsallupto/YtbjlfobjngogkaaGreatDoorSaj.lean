/- Part of a proof over this seat: contracts of functions and plain laws, joined by program out of smaller texts. Conditions: those that each theorem states. -/
import Derived.Test.YtbjlfobjngogkaaGreatDoorSai
import Derived.Test.YtbjlfobjngogkaaGreatDoorRows
import Derived.JoinedCond
import Derived.KernelRfl
import Derived.ProofKit
import Derived.OpenShut
namespace Go.Proofs.YtbjlfobjngogkaaGreatDoor
open Go Go.RowKit Go.ChangeShapes Go.WideShapes Go.ChangeAt
set_option maxRecDepth 100000
theorem j4_1:Rows.topDrainsAllUptoRow.wf (OpenSpec.ofChange (Rows.OpenSpec.upto Rows.topDrainsAllSpec).bare)=true:=by kernel_rfl
theorem j4_4:Tryz.f4.params.all (Tryz.prog.readableRec ·)=true:=by kernel_rfl
theorem j4_5:namedTie Tryz.prog Rows.topDrainsAllUptoRow.named (Rows.OpenSpec.upto Rows.topDrainsAllSpec).bare.vars=true:=by kernel_rfl
theorem j4_6:(Rows.topDrainsAllUptoRow.stops == [])=true:=by kernel_rfl
theorem j4_8:(Rows.topDrainsAllUptoRow.knobs == [])=true:=by kernel_rfl
theorem j4_10:(Rows.topDrainsAllUptoRow.inPlace == Tryz.prog.inPlace 4)=true:=by kernel_rfl
theorem j4_11:(Rows.topDrainsAllUptoRow.unfollowed == Tryz.prog.unfollowed 4)=true:=by kernel_rfl
theorem j4_12:(Rows.topDrainsAllUptoRow.recurses == Tryz.prog.recurses 4)=true:=by kernel_rfl
theorem j4_13:(Rows.topDrainsAllUptoRow.named == Tryz.prog.varsNamed 4)=true:=by kernel_rfl
theorem j4_14:(Rows.topDrainsAllUptoRow.maps == (Tryz.f4.params.toList++(Rows.OpenSpec.upto Rows.topDrainsAllSpec).bare.plain.varTypes Tryz.prog).any (Tryz.prog.mapsRec ·))=true:=by kernel_rfl
theorem j4_15:(Rows.topDrainsAllUptoRow.ifaces == (Tryz.f4.params.toList++(Rows.OpenSpec.upto Rows.topDrainsAllSpec).bare.plain.varTypes Tryz.prog).any (Tryz.prog.ifacesRec ·))=true:=by kernel_rfl
theorem j4_16:(Rows.topDrainsAllUptoRow.mapsOut == Tryz.prog.mapsAmong Tryz.f4.resultTypes.toList)=true:=by kernel_rfl
theorem j4_17:(Rows.topDrainsAllUptoRow.loops == (Tryz.f4.params.toList++(Rows.OpenSpec.upto Rows.topDrainsAllSpec).bare.plain.varTypes Tryz.prog).any (Tryz.prog.loopsFrom ·))=true:=by kernel_rfl
theorem j4_18:(Rows.topDrainsAllUptoRow.wideKeys == (Tryz.f4.params.toList++(Rows.OpenSpec.upto Rows.topDrainsAllSpec).bare.plain.varTypes Tryz.prog++Tryz.f4.resultTypes.toList).any (Tryz.prog.wideKeysFrom ·))=true:=by kernel_rfl
theorem j4_19:(Rows.OpenSpec.upto Rows.topDrainsAllSpec).bare.vars.all (Tryz.prog.varReadable ·)=true:=by kernel_rfl
theorem j4_20:Tryz.f4.resultTypes.all (λt=>Tryz.prog.readableRec t&&decide (t<Tryz.prog.types.size))=true:=by kernel_rfl
theorem j4_21:(Rows.topDrainsAllUptoRow.ifacesOut == Tryz.f4.resultTypes.toList.any (Tryz.prog.ifacesRec ·))=true:=by kernel_rfl
theorem j4_22:(Rows.topDrainsAllUptoRow.loopsOut == Tryz.f4.resultTypes.toList.any (Tryz.prog.loopsFrom ·))=true:=by kernel_rfl
theorem j4_23:(Rows.topDrainsAllUptoRow.plainKeys == Tryz.prog.plainKeys)=true:=by kernel_rfl
theorem j4_24:Rows.topDrainsAllUptoRow.shortTexts.isNone=true:=by kernel_rfl
theorem j4_27:(Rows.topDrainsAllUptoRow.lifted == Tryz.prog.liftsFinal)=true:=by kernel_rfl
theorem j4_28:(Tryz.prog.make == some Rows.topDrainsAllUptoRow.make)=true:=by kernel_rfl
theorem j4_29:(Rows.topDrainsAllUptoRow.kinds == (if Rows.topDrainsAllUptoRow.domain.isEmpty then []else Tryz.f4.params.toList.map λt=>match Tryz.prog.underlying t with | some (.int k)=>some k | _=>none))=true:=by kernel_rfl
theorem j4_30:(Rows.topDrainsAllUptoRow.pinned == Rows.topDrainsAllUptoRow.pinnedBy)=true:=by kernel_rfl
theorem j4_31:(Rows.topDrainsAllUptoRow.veiled == (Tryz.f4.params.toList++(Rows.OpenSpec.upto Rows.topDrainsAllSpec).bare.plain.varTypes Tryz.prog++Tryz.f4.resultTypes.toList).any (Tryz.prog.veiledRec ·))=true:=by kernel_rfl
theorem j4_32:Rows.topDrainsAllUptoRow.veiledFits Tryz.prog Tryz.f4.params.toList (Tryz.f4.params.toList++(Rows.OpenSpec.upto Rows.topDrainsAllSpec).bare.plain.varTypes Tryz.prog++Tryz.f4.resultTypes.toList)=true:=by kernel_rfl
theorem z2d:joinedFacts Tryz.prog 4 Tryz.f4 (Rows.OpenSpec.upto Rows.topDrainsAllSpec).bare Rows.topDrainsAllUptoRow=true:=j_and (j_and (j_and (j_and (j_and (j_and (j_and (j_and (j_and (j_and (j_and (j_and (j_and (j_and (j_and (j_and (j_and (j_and (j_and (j_and (j_and (j_and (j_and (j_and (j_and (j_and (j_and (j_and (j_and (j_and (j_and (j4_1) j_2) j_3) j4_4) j4_5) j4_6) j_7) j4_8) j_9) j4_10) j4_11) j4_12) j4_13) j4_14) j4_15) j4_16) j4_17) j4_18) j4_19) j4_20) j4_21) j4_22) j4_23) j4_24) j_25) j_26) j4_27) j4_28) j4_29) j4_30) j4_31) j4_32
end Go.Proofs.YtbjlfobjngogkaaGreatDoor
