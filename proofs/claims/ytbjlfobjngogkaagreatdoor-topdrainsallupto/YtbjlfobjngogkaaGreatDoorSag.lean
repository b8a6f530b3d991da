/- Part of a proof over this seat: contracts of functions and plain laws, joined by program out of smaller texts. Conditions: those that each theorem states. -/
import Derived.Test.YtbjlfobjngogkaaGreatDoorSaf
import Derived.Test.YtbjlfobjngogkaaGreatDoorRows
import Derived.Shelf.Vars
import Derived.Lib.LaidU8
import Derived.OpenShut
import Derived.LaidLaws
import Derived.ProofKit
import Derived.JoinedCond
import Derived.Deep.DeepHandedRow
import Derived.Deep.DeepWitnessRowRef
namespace Go.Proofs.YtbjlfobjngogkaaGreatDoor
open Go Go.RowKit Go.ChangeShapes Go.WideShapes Go.ChangeAt
set_option maxRecDepth 100000
theorem own0:ownKnob Tryz.prog.godebug=none:=by kernel_rfl
theorem zyg:laidOutB Tryz.prog=true:=by kernel_rfl
theorem zqz {H:Type}:∀l:List (DataW H),(l.map Rows.uptoBulk).sum=Rows.uptoBulkAll l
 | []=>by simp [Rows.uptoBulkAll]
 | d::l=>by simp only [Jf,QF,Rows.uptoBulkAll,zqz l]
theorem bulkL {H:Type}:BulkL (Rows.uptoBulk (H:=H)):=by
 refine⟨λd=> ?_,λl=> ?_,λl=> ?_,λl s=> ?_⟩
 ·cases d with
  | lit l=>cases l <;>simp [Rows.uptoBulk]
  | nil=>simp [Rows.uptoBulk]
  | ptr d=>simp [Rows.uptoBulk]
  | slice elems spare=>simp [Rows.uptoBulk]
  | agg parts=>simp [Rows.uptoBulk]
  | iface t d=>simp [Rows.uptoBulk]
  | map entries=>simp [Rows.uptoBulk]
  | held h=>simp [Rows.uptoBulk]
 ·simp only [Rows.uptoBulk];omega
 ·rw [zqz];simp only [Rows.uptoBulk];omega
 ·rw [zqz];simp only [Rows.uptoBulk];omega
theorem zvw {E w W:World} (h:Hs E w [wA W]) {a:Addr} {v:Value} (hc:W.cell? a=some v):w.cell? a=some v:=by
 unfold World.cell? at hc ⊢;split at hc
 ·rename_i c t z hb
  have:=h.holds (a.block,.cells c t z) (by simp only [JV,List.flatten_nil,Jj];exact zq3.2 hb)
  simp only at this;rw [this];exact hc
 ·cases hc
theorem z16 {W:World} {l:List (String×DataW Unit)} (hsh:W.ShapedOpen Tryz.prog) (hL:laidMet Tryz.prog l W) (hm:("strconv.ErrRange",Rows.laid_strconv_ErrRange)∈l):Glob [wA W]:=by
 obtain⟨m,h0⟩:=Go.Proofs.cell_of_shapedOpen_int (P:=Tryz.prog) (g:=0) (zero:= #[.int .i64 0]) (t:=3) hsh (of_decide_eq_true (by kernel_rfl)) (by kernel_rfl) rfl (by kernel_rfl) (by kernel_rfl) Tryz.underlying3;obtain⟨g,t,cs,fuel,p,h1,h2,h3,h4⟩:=Lib.laidMet.reads hL hm;have e1:Tryz.prog.globalNamed "strconv.ErrRange" =some 4:=by kernel_rfl
 rw [e1]at h1;cases h1;have e2:(Tryz.prog.globals[4]?).map (·.type)=some 118:=by kernel_rfl
 rw [e2]at h2;cases h2;have e3:∃ms,Tryz.prog.underlying 118=some (.interface ms):=⟨_,Tryz.underlying118⟩;obtain⟨ms,e3⟩:=e3;obtain⟨_,u,v,hcs,_,_⟩:=iface_of_trod e3 h4;have hcell:W.cell? ⟨4,0,none⟩=some (.iface u v):=by
  unfold World.var? at h3;rw [e1]at h3;simp only [Option.bind_some]at h3;unfold World.cell?;cases hb:W.heap[4]? with
  | none=>rw [hb]at h3;cases h3
  | some o=>
   rw [hb]at h3;cases o with
   | cells c t z=>
    simp only [Option.some.injEq]at h3;subst h3
    have:c[0]? =some (.iface u v):=by rw [←Array.getElem?_toList,hcs];rfl
    simpa using this
   | _=>cases h3
 exact⟨m,.iface u v,λE w hw=>zvw hw h0,λE w hw=>zvw hw hcell,.inr ⟨u,v,rfl⟩⟩
def litV {H:Type}:DataW H→Value
 | .lit (.int k n)=> .int k n
 | _=> .nilIface
def rowV {H:Type}:DataW H→List Value
 | .agg l=>l.map litV
 | _=>[]
def rowsV {H:Type}:DataW H→List Value
 | .agg l=>l.flatMap rowV
 | _=>[]
def textV {H:Type}:DataW H→Value
 | .iface _ (.ptr (.agg [.lit (.string s)]))=> .string ⟨⟨s⟩⟩
 | _=> .nilIface
noncomputable def zdv (os:Os):World:=
 let N:=(World.settled Tryz.prog os).heap.size
 let w0:=World.holding Tryz.prog os ⟨#[.cells #[textV (Rows.laid_strconv_ErrSyntax (H:=Unit))] 579,.cells #[textV (Rows.laid_strconv_ErrRange (H:=Unit))] 579],#[],[]⟩
 let put (h:Array Obj) (g:Nat) (cs:List Value):Array Obj:=h.modify g λ
  | .cells _ t frozen=> .cells ⟨cs⟩ t frozen
  | o=>o
 let h1:=put w0.heap 1 (rowV Rows.laid_unicode_utf8_first)
 let h2:=put h1 2 (rowsV (Rows.laid_unicode_utf8_acceptRanges (H:=Unit)))
 let h3:=put h2 3 [.iface 577 (.pointer (some ⟨N,0,none⟩))]
 let h4:=put h3 4 [.iface 577 (.pointer (some ⟨N+1,0,none⟩))]
 let h5:=put h4 5 (rowV (Rows.laid_internal_strconv_uint64pow10 (H:=Unit)))
 let h6:=put h5 6 (rowV (Rows.laid_math_bits_deBruijn32tab (H:=Unit)))
 let h7:=put h6 7 (rowV (Rows.laid_math_bits_deBruijn64tab (H:=Unit)))
 {w0 with heap:=h7}
noncomputable def zh8:Value:= .agg ⟨zfy ⟨0,0,0,0,0,0⟩ .empty none 0 0 none 0 0⟩
theorem laid0 (os:Os):laidMet Tryz.prog Rows.topProgressAllRow.laid ((zdv os).forCall (λ_ _=>0) ⟨#[],#[zh8],[]⟩).memory:=
 laidMet_of_run' 10 (by kernel_rfl) (by kernel_rfl)
theorem vars0 (os:Os):((zdv os).forCall (λ_ _=>0) ⟨#[],#[zh8],[]⟩).variablesRefB Tryz.prog=true:=by kernel_rfl
theorem rest0 (os:Os):(((zdv os).forCall (λ_ _=>0) ⟨#[],#[zh8],[]⟩).heap.toList.drop Tryz.prog.globals.size).take ((begin Tryz.prog (λ_ _=>0) default).world.heap.size-Tryz.prog.globals.size) =
   (begin Tryz.prog (λ_ _=>0) default).world.heap.toList.drop Tryz.prog.globals.size:=by kernel_rfl
end Go.Proofs.YtbjlfobjngogkaaGreatDoor
