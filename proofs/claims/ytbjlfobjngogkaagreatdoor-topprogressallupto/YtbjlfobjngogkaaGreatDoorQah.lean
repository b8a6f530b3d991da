/- Part of a proof over this seat: contracts of functions and plain laws, joined by program out of smaller texts. Conditions: those that each theorem states. -/
import Derived.Test.YtbjlfobjngogkaaGreatDoorQag
namespace Go.Proofs.YtbjlfobjngogkaaGreatDoor
open Go Go.RowKit Go.ChangeShapes Go.WideShapes Go.ChangeAt
set_option maxRecDepth 100000
theorem contractS {g:FuncId} {f:Func} {s:ChangeSpec} (hp:f.params= #[27]) (hr:f.resultTypes= #[4]) (hv:s.vars=[]) (hs:∀(H:Type) (d:DataW H),s.fn H [d]={results:=[.lit (.bool true)],args:=[d]})
  (walk:∀(W:World) (cells:List Value),StageR (wA W) cells→Glob [wA W]→fn g [.agg ⟨cells⟩] (fun v cs=>v= .bool true∧cs=[wA W]) [wA W])
  {H:Type} {enc:TypeId×Value→H} {W:World} {base:Nat} {args:Array Value} {ds gs:List (DataW H)} {before:List MemPlace}
  (hval:∀(j:Nat) t v,f.params[j]? =some t→args[j]? =some v→Value.okWide Tryz.prog W .any base t v)
  (hW:DataW.Whole enc Tryz.prog f.params.toList s.vars false W args.toList ds gs before) (hk:Rows.uptoSmall H (ds++gs)=true) (hg:Glob [wA W]):
  Calls Tryz.prog g args W fun e W'=>∃v,e= .returned v∧s.post enc Tryz.prog f false true false false W args v W':=by
 have hW':=hW
 obtain⟨p,q,hA,hV,rfl,_,_⟩:=hW
 rw [hp]at hA hval
 rw [hv]at hV
 obtain⟨v0,vs0,d0,ds0,p0,q0,hargs,rfl,rfl,h0,r0⟩:=trodAll_cons hA
 obtain⟨rfl,rfl,rfl⟩:=trodAll_nil r0
 obtain rfl:args= #[v0]:=by cases args;simp_all
 obtain⟨rfl,rfl⟩:=trodVars_none hV
 have hu:∃fs,Tryz.prog.underlying 27=some (.struct fs):=⟨_,(strF_facts sfT).1⟩
 obtain⟨fs,hu⟩:=hu
 obtain⟨cs,rfl,_⟩:=okWide_struct hu (hval 0 27 v0 rfl rfl)
 have h0k:=h0
 obtain⟨fuel,h0⟩:=h0
 have hb:Rows.uptoBulk d0≤1048576:=by
  have h1:Rows.uptoBulkAll ([d0]++[])≤1048576:=of_decide_eq_true hk
  simp only [List.append_nil,Rows.uptoBulkAll]at h1
  omega
 have hst:StageR (wA W) cs.toList:=rdr_stage (enc:=enc) (W:=W) bulkL fuel _ _ h0 hb
 have hlt:∀x∈p0,x.block<W.heap.size:=fun x hx=>by simpa using hW'.lt x (by simp [hx])
 have hw:=walk W cs.toList hst hg
 refine(hw.calls W W (wA_hs W)).mono fun e W' ⟨v,cs',he,hs',hv',hc'⟩=> ?_
 subst hc';subst hv'
 have hbel:=wA_below hs'
 have e1:s.fn H ([d0]++[])={results:=[.lit (.bool true)],args:=[d0]}:=by rw [List.append_nil];exact hs H d0
 refine⟨_,he,_,_,_,[],p0,[],hW',?_,?_,?_,hbel.frame _,fun h=>by cases h⟩
 ·rw [e1,hr];exact trodAll_mk1 (shut_bool Tryz.underlying4 true)
 ·rw [e1,hp];exact trodAll_mk1 (Below.trod laidOut0 (by kernel_rfl) (of_decide_eq_true (by kernel_rfl)) h0k hbel hlt)
 ·rw [e1,hv];rfl
def stageD {H:Type}:DataW H:= .agg [.agg [.lit (.int .i64 0),.lit (.int .i64 0),.lit (.int .i64 0),.lit (.int .i64 0),.lit (.int .i64 0),.lit (.int .i64 0)],.lit (.string []),.nil,.nil]
theorem walk3 (W:World) (cells:List Value) (h:StageR (wA W) cells) (g:Glob [wA W]):fn 3 [.agg ⟨cells⟩] (fun v cs=>v= .bool true∧cs=[wA W]) [wA W]:=by
 obtain⟨su,src,sa,sn,sc,ra,rn,rc,ps0,R,rfl,r1,r2,r3,r4,r5,r6,r7,r8,r9⟩:=h.h
 exact c3t (A:=wA W) g r1 r2 r3 r4 r5 inferInstance r6 r7 r8 r9 ⟨rfl,rfl⟩
theorem reads3 (os:Os) {H:Type} (enc:TypeId×Value→H):∃places,DataW.whole enc Tryz.prog ((laidWorld os).forCall (fun _ _=>0) ⟨#[],#[stage0],[]⟩).memory Tryz.f3.params.toList Rows.topProgressAllSpec.vars false #[stage0].toList 8=some ([stageD],[],places):=by
 have hw:(DataW.whole enc Tryz.prog ((laidWorld os).forCall (fun _ _=>0) ⟨#[],#[stage0],[]⟩).memory Tryz.f3.params.toList Rows.topProgressAllSpec.vars false #[stage0].toList 8).map (fun x=>(x.1,x.2.1))=some ([stageD],[]):=by kernel_rfl
 obtain⟨⟨x1,x2,x3⟩,hx,hx1⟩:=Option.map_eq_some_iff.1 hw
 simp only [Prod.mk.injEq]at hx1
 obtain⟨rfl,rfl⟩:=hx1
 exact⟨x3,hx⟩
theorem lifted3 (os:Os) (started:os.Started) (H:Type) (enc:TypeId×Value→H) (F:Stop.Interp):
  ReturnsInHanded {} Tryz.checked os 3 .any ((Rows.OpenSpec.upto Rows.topProgressAllSpec).preRow enc Tryz.prog Tryz.f3 Rows.topProgressAllUptoRow.domain false Rows.topProgressAllUptoRow.laid) (((Rows.OpenSpec.upto Rows.topProgressAllSpec).at F).post enc Tryz.prog Tryz.f3 false true false false):=by
 obtain⟨places,hx⟩:=reads3 os enc
 refine returnsInHanded_of_row (C:=Tryz.checked) (s:=Rows.OpenSpec.upto Rows.topProgressAllSpec) own0 started (by kernel_rfl) Tryz.func3
  (witness_row_atRef (enc:=enc) (C:=Tryz.checked) false (laidWorld os) #[stage0] rfl (vars0 os) (rest0 os) (by kernel_rfl)
   (OpenSpec.preRow_of_cond 8 hx (by kernel_rfl) (fun k hk=>by cases hk;kernel_rfl) (by kernel_rfl) (laid0 os))) ?_
 intro W base args ds gs before hval hW _ hcond _ hL hsh _
 have hL1:laidMet Tryz.prog Rows.topProgressAllUptoRow.laid W:=hL
 exact contractS (s:=Rows.topProgressAllSpec) rfl rfl rfl (fun _ _=>rfl) walk3 hval hW (hcond _ rfl) (glob_of hsh hL1 (.tail _ (.tail _ (.tail _ (.head _)))))
end Go.Proofs.YtbjlfobjngogkaaGreatDoor
