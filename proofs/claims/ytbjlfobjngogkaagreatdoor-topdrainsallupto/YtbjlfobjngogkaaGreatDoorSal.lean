/- Part of a proof over this seat: contracts of functions and plain laws, joined by program out of smaller texts. Conditions: those that each theorem states. -/
import Derived.Test.YtbjlfobjngogkaaGreatDoorSak
import Derived.Test.YtbjlfobjngogkaaGreatDoorRows
import GoSem.ClaimGoes
namespace Go.Proofs.YtbjlfobjngogkaaGreatDoor
open Go
theorem zz7:Tryz.prog.funcs.any Func.goes=false:=by kernel_rfl
theorem z15 (f:FuncId):Tryz.prog.goes f=false:=by
 have h:∀g:Nat,(Tryz.prog.funcs[g]?).any Func.goes=false:=by
  intro g;cases hg:Tryz.prog.funcs[g]? with
  | none=>rfl
  | some fn=>
   cases hb:Func.goes fn with
   | false=>simp [hb]
   | true=>
    have hm:fn∈Tryz.prog.funcs:=Array.mem_of_getElem? hg
    have:Tryz.prog.funcs.any Func.goes=true:=Array.any_eq_true'.2 ⟨fn,hm,hb⟩
    rw [zz7]at this;cases this
 unfold Program.goes;rw [zz7];simp [h]
theorem zvz {c:OpenClaim} (hs:c.start= .entering):false=c.goesBy Tryz.prog:=by
 unfold OpenClaim.goesBy Program.goesAt Program.goesFrom;rw [hs];cases Tryz.prog.funcNamed c.func with
 | none=>rfl
 | some f=>simp [z15]
end Go.Proofs.YtbjlfobjngogkaaGreatDoor
