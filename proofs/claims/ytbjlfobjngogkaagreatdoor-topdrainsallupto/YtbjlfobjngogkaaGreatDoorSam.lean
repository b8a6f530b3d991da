/- Part of a proof over this seat: contracts of functions and plain laws, joined by program out of smaller texts. Conditions: those that each theorem states. -/
import Derived.Test.YtbjlfobjngogkaaGreatDoorSal
namespace Go.Proofs.YtbjlfobjngogkaaGreatDoor
open Go Go.RowKit Go.ChangeShapes Go.WideShapes Go.ChangeAt
set_option maxRecDepth 100000
theorem zz8:Tryz.prog.funcNamed Rows.topDrainsAllUptoRow.func=some 4:=by kernel_rfl
theorem inst4:Tryz.f4.isInstance Tryz.prog Rows.topDrainsAllUptoRow.origin Rows.topDrainsAllUptoRow.targs:=of_decide_eq_true (by kernel_rfl)
theorem wrap4:Tryz.f4.isWrapper Tryz.prog Rows.topDrainsAllUptoRow.wrapper Rows.topDrainsAllUptoRow.mainSum:=by unfold Func.isWrapper;first | (rw [if_pos (by decide +kernel)];kernel_rfl) | (rw [if_neg (by decide +kernel)];exact⟨rfl,rfl⟩)
theorem said4:Rows.TopDrainsAllUptoSaid:=
 OpenClaim.holds_of_cond 4 Tryz.f4 rfl rfl rfl rfl rfl rfl rfl ⟨rfl,rfl,rfl,rfl,rfl⟩ rfl rfl rfl rfl rfl zz8 Tryz.func4 z2d inst4 wrap4
  (λos started H enc _ F=>by rw [OpenClaim.pre_eq_preRow];exact z1v os started H enc F)
theorem z06:Rows.topDrainsAllUptoRow.laidByTextAt .later Tryz.pinned [.pinned,.data,.sentinel,.sentinel,.data,.data,.data] true:=
 OpenClaim.laidByTextAt_pinned rfl rfl tieA rfl rfl rfl rfl (λy hy e=>by
  simp only [Rows.topDrainsAllUptoRow,List.zip_cons_cons,List.zip_nil_right,Jp,List.mem_nil_iff,or_false]at hy;rcases hy with rfl | rfl | rfl | rfl | rfl | rfl | rfl
  ·exact⟨pinF,by kernel_rfl⟩
  ·cases e
  ·cases e
  ·cases e
  ·cases e
  ·cases e
  ·cases e) fitsA
theorem wf4:Rows.topDrainsAllUptoRow.wfByText (Rows.OpenSpec.upto Rows.topDrainsAllSpec)=true:=by kernel_rfl
theorem goes4:false=Rows.topDrainsAllUptoRow.goesBy Tryz.prog:=zvz rfl
theorem z3b (f:FuncId) (fn:Func) (hf:Tryz.pinned.checked.prog.funcNamed Rows.topDrainsAllUptoRow.func=some f) (hfn:Tryz.pinned.checked.prog.funcs[f]? =some fn):
  true=Tryz.pinned.checked.prog.looks []∧∀(j:Nat) t,fn.params[j]? =some t→Tryz.pinned.checked.prog.wantsStandIn t=false:=by
 obtain rfl:f=4:=JQ (zz8.symm.trans hf) |>.symm;obtain rfl:fn=Tryz.f4:=(JQ (Tryz.func4.symm.trans hfn)).symm;refine⟨z3i,λj t ht=> ?_⟩;rw [Tryz.params4]at ht;obtain rfl:t=27:=by simpa using Array.mem_of_getElem? ht
 exact z2q
theorem topDrainsAll_holds:Rows.TopDrainsAllUptoCardSaid:=
 Claim7.holds_tied_plain_at .later [] _ _ _ _ said4 (λ_ h=>by cases h) wf4 (λ_ h=>by cases h) z06 rfl ⟨rfl,rfl⟩ mainT rfl z3b goes4
end Go.Proofs.YtbjlfobjngogkaaGreatDoor
