/- Part of a proof over this seat: contracts of functions and plain laws, joined by program out of smaller texts. Conditions: those that each theorem states. -/
import Derived.Test.YtbjlfobjngogkaaGreatDoorQal
namespace Go.Proofs.YtbjlfobjngogkaaGreatDoor
open Go Go.RowKit Go.ChangeShapes Go.WideShapes Go.ChangeAt
set_option maxRecDepth 100000
theorem named3:Tryz.prog.funcNamed Rows.topProgressAllUptoRow.func=some 3:=by kernel_rfl
theorem inst3:Tryz.f3.isInstance Tryz.prog Rows.topProgressAllUptoRow.origin Rows.topProgressAllUptoRow.targs:=of_decide_eq_true (by kernel_rfl)
theorem wrap3:Tryz.f3.isWrapper Tryz.prog Rows.topProgressAllUptoRow.wrapper Rows.topProgressAllUptoRow.mainSum:=by unfold Func.isWrapper;first | (rw [if_pos (by decide +kernel)];kernel_rfl) | (rw [if_neg (by decide +kernel)];exact⟨rfl,rfl⟩)
theorem said3:Rows.TopProgressAllUptoSaid:=
 OpenClaim.holds_of_cond 3 Tryz.f3 rfl rfl rfl rfl rfl rfl rfl ⟨rfl,rfl,rfl,rfl,rfl⟩ rfl rfl rfl rfl rfl named3 Tryz.func3 closed3 inst3 wrap3
  (fun os started H enc _ F=>by rw [OpenClaim.pre_eq_preRow];exact lifted3 os started H enc F)
theorem rowTie3:Rows.topProgressAllUptoRow.laidByTextAt .later Tryz.pinned [.pinned,.data,.sentinel,.sentinel,.data,.data,.data] true:=
 OpenClaim.laidByTextAt_pinned rfl rfl tieA rfl rfl rfl rfl (fun y hy e=>by
  simp only [Rows.topProgressAllUptoRow,List.zip_cons_cons,List.zip_nil_right,List.mem_cons,List.mem_nil_iff,or_false]at hy
  rcases hy with rfl | rfl | rfl | rfl | rfl | rfl | rfl
  ·exact⟨pinF,by kernel_rfl⟩
  ·cases e
  ·cases e
  ·cases e
  ·cases e
  ·cases e
  ·cases e) fitsA
theorem wf3:Rows.topProgressAllUptoRow.wfByText (Rows.OpenSpec.upto Rows.topProgressAllSpec)=true:=by kernel_rfl
theorem goes3:false=Rows.topProgressAllUptoRow.goesBy Tryz.prog:=goesBy_no rfl
theorem plain3 (f:FuncId) (fn:Func) (hf:Tryz.pinned.checked.prog.funcNamed Rows.topProgressAllUptoRow.func=some f) (hfn:Tryz.pinned.checked.prog.funcs[f]? =some fn):
  true=Tryz.pinned.checked.prog.looks []∧∀(j:Nat) t,fn.params[j]? =some t→Tryz.pinned.checked.prog.wantsStandIn t=false:=by
 obtain rfl:f=3:=Option.some.inj (named3.symm.trans hf) |>.symm
 obtain rfl:fn=Tryz.f3:=(Option.some.inj (Tryz.func3.symm.trans hfn)).symm
 refine⟨looksT,fun j t ht=> ?_⟩
 rw [Tryz.params3]at ht
 obtain rfl:t=27:=by simpa using Array.mem_of_getElem? ht
 exact standT
theorem topProgressAll_holds:Rows.TopProgressAllUptoCardSaid:=
 Claim7.holds_tied_plain_at .later [] _ _ _ _ said3 (fun _ h=>by cases h) wf3 (fun _ h=>by cases h) rowTie3 rfl ⟨rfl,rfl⟩ mainT rfl plain3 goes3
end Go.Proofs.YtbjlfobjngogkaaGreatDoor
