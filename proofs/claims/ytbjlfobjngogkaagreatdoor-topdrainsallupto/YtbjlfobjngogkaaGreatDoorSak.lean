/- Part of a proof over this seat: contracts of functions and plain laws, joined by program out of smaller texts. Conditions: those that each theorem states. -/
import Derived.Test.YtbjlfobjngogkaaGreatDoorSaj
import Derived.Test.YtbjlfobjngogkaaGreatDoorRows
import Derived.Test.YtbjlfobjngogkaaGreatDoorCards
import Derived.LaidByTextLater
import Derived.SevenTiedAt
namespace Go.Proofs.YtbjlfobjngogkaaGreatDoor
open Go
noncomputable abbrev tieL:List (String×DataW Unit):=[("unicode/utf8.acceptRanges",Rows.laid_unicode_utf8_acceptRanges),("strconv.ErrSyntax",Rows.laid_strconv_ErrSyntax),("strconv.ErrRange",Rows.laid_strconv_ErrRange),("internal/strconv.uint64pow10",Rows.laid_internal_strconv_uint64pow10),("math/bits.deBruijn32tab",Rows.laid_math_bits_deBruijn32tab),("math/bits.deBruijn64tab",Rows.laid_math_bits_deBruijn64tab)]
theorem tie1:Tryz.prog.worded (varsWordLater true)=true:=by kernel_rfl
theorem tie2:Tryz.prog.worded (varsWordLater !true)=false:=by kernel_rfl
theorem tie3:Tryz.prog.worded rootWordLater=true:=by kernel_rfl
theorem tie4:tieL.map (λx=>Tryz.prog.kindOfLater x.1)=[LaidKind.data,.sentinel,.sentinel,.data,.data,.data].map some:=by kernel_rfl
theorem tie5:(Tryz.prog.funcNamed "gosem.cut.vars").isSome=true:=by kernel_rfl
theorem tie6:varsNamedLaterB Tryz.prog (varsId Tryz.prog) tieL=true:=by kernel_rfl
theorem tie7 (os:Os) (tape:Tape):varsDone Tryz.prog 400 (varsId Tryz.prog) os tape=true:=by kernel_rfl
theorem tie8 (os:Os) (tape:Tape):(DataW.laidRun Tryz.prog (varsWorld Tryz.prog 400 (varsId Tryz.prog) os tape).memory 8 (tieL.map (·.1))).map (·.1)=some tieL:=by kernel_rfl
theorem tie9 (os:Os) (tape:Tape):(DataW.laidRun Tryz.prog (varsWorld Tryz.prog 400 (varsId Tryz.prog) os tape).memory 8 (tieL.map (·.1))).map (λx=>decide x.2.Nodup&&laidRowsB Tryz.prog (varsWorld Tryz.prog 400 (varsId Tryz.prog) os tape).memory x.2)=some true:=by kernel_rfl
theorem tieP:(tieL.all λx=>x.2.handleName?.isNone)=true:=by kernel_rfl
theorem pinF:Tryz.pinned.checked.prog.pinnedFits "unicode/utf8.first" =true:=by kernel_rfl
theorem noOwn:Tryz.pinned.checked.prog.headLifts.contains "ownunsafe" =false:=by kernel_rfl
theorem fitsA:Tryz.pinned.checked.prog.listedFits (("unicode/utf8.first",Rows.laid_unicode_utf8_first)::tieL)=true:=by
 unfold Program.listedFits;rw [noOwn]
 kernel_rfl
theorem tieA:Tryz.prog.laidByTextLater tieL [.data,.sentinel,.sentinel,.data,.data,.data] true:=
 Program.laidByTextLater_by_run 400 8 tie1 tie2 tie3 tie4 tie5 tie6 tie7 tie8 tie9 tieP
theorem z3i:true=Tryz.prog.looks []:=by kernel_rfl
theorem mainT:Tryz.prog.mainIs=some (true, "974deadaf4ac8455c9528ae81dd7111879cbb49a83b1dcf5784c7a19710e45aa".toList):=by kernel_rfl
theorem z2q:Tryz.prog.wantsStandIn 27=false:=by kernel_rfl
end Go.Proofs.YtbjlfobjngogkaaGreatDoor
