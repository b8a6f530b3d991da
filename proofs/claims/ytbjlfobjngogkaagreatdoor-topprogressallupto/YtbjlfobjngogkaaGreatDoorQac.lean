/- Part of a proof over this seat: contracts of functions and plain laws, joined by program out of smaller texts. Conditions: those that each theorem states. -/
import Derived.Test.YtbjlfobjngogkaaGreatDoorQab
import Derived.ChangeKeysEq
namespace Go.Proofs.YtbjlfobjngogkaaGreatDoor
open Go
variable {K:Value→SP} {cs:St}
@[reducible] def s110 (x0:Option Addr) (y0:Nat) (z0:Nat) (x1:Value) (K:Value→SP):SP:=
 Lp (fun self0 l1=>unI .i64 (l1.headD undef) fun i2=>br (decide (i2<(y0:Int))) (ix 30 (.slice x0 y0 z0) (i2) fun a4=>ldA 101 (a4) fun a6=>cv (x1) [.agg (.mk a6)]<|fun v7=>unB v7 fun b8=>br (b8) (K (.int .i64 i2))<|self0 [.int .i64 (w64 (i2+1))])<|K (.int .i64 (-1))) [.int .i64 0]
theorem f110 {x0:Option Addr} {y0 z0:Nat} {x1:Value} (h:s110 x0 y0 z0 x1 K cs):fn 110 [.slice x0 y0 z0,x1] K cs:=fO (an:=⟨[(2,[(8,.int .i64)])],[]⟩) Tryz.func110 h
@[reducible] def s140 (x0:Option Addr) (y0:Nat) (z0:Nat) (K:Value→SP):SP:=
 br (x0.isNone) (K (.slice none 0 0))<|sm (Instr.buildSlice 43 0 (Array.mk []))<|fun v0=>unL v0 fun a1 n2 c3=>sm (Builtin.append_ (Array.mk [43,43]) 43 (Array.mk [.slice a1 n2 c3,.slice x0 y0 z0]))<|fun v4=>unL v4 fun a5 n6 c7=>K (.slice a5 n6 c7)
theorem f140 {x0:Option Addr} {y0 z0:Nat} (h:s140 x0 y0 z0 K cs):fn 140 [.slice x0 y0 z0] K cs:=fO (an:=⟨[],[]⟩) Tryz.func140 h
@[reducible] def s141 (x0:Option Addr) (y0:Nat) (z0:Nat) (K:Value→SP):SP:=
 br (x0.isNone) (K (.slice none 0 0))<|sm (Instr.buildSlice 95 0 (Array.mk []))<|fun v0=>unL v0 fun a1 n2 c3=>sm (Builtin.append_ (Array.mk [95,95]) 95 (Array.mk [.slice a1 n2 c3,.slice x0 y0 z0]))<|fun v4=>unL v4 fun a5 n6 c7=>K (.slice a5 n6 c7)
theorem f141 {x0:Option Addr} {y0 z0:Nat} (h:s141 x0 y0 z0 K cs):fn 141 [.slice x0 y0 z0] K cs:=fO (an:=⟨[],[]⟩) Tryz.func141 h
@[reducible] def s182 (x0:Option Addr) (y0:Nat) (z0:Nat) (x1:Value) (K:Value→SP):SP:=
 fn 273 [.slice x0 y0 z0,x1]<|fun v0=>unI .i64 v0 fun n1=>br (n1 == -1) (K (.slice x0 y0 z0))<|Lp (fun self2 l3=>unI .i64 (l3.headD undef) fun i4=>unI .i64 (l3.tail.headD undef) fun i5=>br (decide (i5<(y0:Int))) (ix 34 (.slice x0 y0 z0) (i5) fun a7=>ldI .i64 3 (a7) fun n9=>cv (x1) [.int .i64 n9]<|fun v10=>unB v10 fun b11=>br (!b11) (ix 34 (.slice x0 y0 z0) (i4) fun a13=>st 3 (a13) (.int .i64 n9)<|self2 [.int .i64 (w64 (i4+1)),.int .i64 (w64 (i5+1))])<|self2 [.int .i64 i4,.int .i64 (w64 (i5+1))])<|qy (Instr.sliceAt 34 (.slice x0 y0 z0) (some (.int .i64 i4)) none none)<|fun v15=>unL v15 fun a16 n17 c18=>sm (Builtin.clear_ (Array.mk [34]) 0 (Array.mk [.slice a16 n17 c18]))<|fun v19=>unV v19 fun _=>qy (Instr.sliceAt 34 (.slice x0 y0 z0) none (some (.int .i64 i4)) none)<|fun v21=>unL v21 fun a22 n23 c24=>K (.slice a22 n23 c24)) [.int .i64 n1,.int .i64 (w64 (n1+1))]
theorem f182 {x0:Option Addr} {y0 z0:Nat} {x1:Value} (h:s182 x0 y0 z0 x1 K cs):fn 182 [.slice x0 y0 z0,x1] K cs:=fO (an:=⟨[(5,[(5,.int .i64),(6,.int .i64)])],[]⟩) Tryz.func182 h
@[reducible] def s219 (x0:Option Addr) (y0:Nat) (z0:Nat) (x1:Value) (K:Value→SP):SP:=
 fn 313 [.slice x0 y0 z0,x1]<|fun v0=>unI .i64 v0 fun n1=>K (.bool (decide (n1≥0)))
theorem f219 {x0:Option Addr} {y0 z0:Nat} {x1:Value} (h:s219 x0 y0 z0 x1 K cs):fn 219 [.slice x0 y0 z0,x1] K cs:=fO (an:=⟨[],[]⟩) Tryz.func219 h
@[reducible] def s227 (x0:Option Addr) (y0:Nat) (z0:Nat) (x1:Int) (K:Value→SP):SP:=
 Lp (fun self0 l1=>unI .i64 (l1.headD undef) fun i2=>br (decide (i2<(y0:Int))) (ix 34 (.slice x0 y0 z0) (i2) fun a4=>ldI .i64 3 (a4) fun n6=>br (x1 == n6) (K (.int .i64 i2))<|self0 [.int .i64 (w64 (i2+1))])<|K (.int .i64 (-1))) [.int .i64 0]
theorem f227 {x0:Option Addr} {y0 z0:Nat} {x1:Int} (h:s227 x0 y0 z0 x1 K cs):fn 227 [.slice x0 y0 z0,.int .i64 x1] K cs:=fO (an:=⟨[(2,[(8,.int .i64)])],[]⟩) Tryz.func227 h
@[reducible] def s270 (x0:Option Addr) (y0:Nat) (z0:Nat) (x1:Int) (K:Value→SP):SP:=
 fn 227 [.slice x0 y0 z0,.int .i64 x1]<|fun v0=>unI .i64 v0 fun n1=>K (.bool (decide (n1≥0)))
theorem f270 {x0:Option Addr} {y0 z0:Nat} {x1:Int} (h:s270 x0 y0 z0 x1 K cs):fn 270 [.slice x0 y0 z0,.int .i64 x1] K cs:=fO (an:=⟨[],[]⟩) Tryz.func270 h
@[reducible] def s273 (x0:Option Addr) (y0:Nat) (z0:Nat) (x1:Value) (K:Value→SP):SP:=
 Lp (fun self0 l1=>unI .i64 (l1.headD undef) fun i2=>br (decide (i2<(y0:Int))) (ix 34 (.slice x0 y0 z0) (i2) fun a4=>ldI .i64 3 (a4) fun n6=>cv (x1) [.int .i64 n6]<|fun v7=>unB v7 fun b8=>br (b8) (K (.int .i64 i2))<|self0 [.int .i64 (w64 (i2+1))])<|K (.int .i64 (-1))) [.int .i64 0]
theorem f273 {x0:Option Addr} {y0 z0:Nat} {x1:Value} (h:s273 x0 y0 z0 x1 K cs):fn 273 [.slice x0 y0 z0,x1] K cs:=fO (an:=⟨[(2,[(8,.int .i64)])],[]⟩) Tryz.func273 h
@[reducible] def s313 (x0:Option Addr) (y0:Nat) (z0:Nat) (x1:Value) (K:Value→SP):SP:=
 Lp (fun self0 l1=>unI .i64 (l1.headD undef) fun i2=>br (decide (i2<(y0:Int))) (ix 144 (.slice x0 y0 z0) (i2) fun a4=>ldS 9 (a4) fun s6=>cv (x1) [.string s6]<|fun v7=>unB v7 fun b8=>br (b8) (K (.int .i64 i2))<|self0 [.int .i64 (w64 (i2+1))])<|K (.int .i64 (-1))) [.int .i64 0]
theorem f313 {x0:Option Addr} {y0 z0:Nat} {x1:Value} (h:s313 x0 y0 z0 x1 K cs):fn 313 [.slice x0 y0 z0,x1] K cs:=fO (an:=⟨[(2,[(8,.int .i64)])],[]⟩) Tryz.func313 h
@[reducible] def s320 (x0:Option Addr) (y0:Nat) (z0:Nat) (x1:Value) (K:Value→SP):SP:=
 Lp (fun self0 l1=>unI .i64 (l1.headD undef) fun i2=>br (decide (i2<(y0:Int))) (ix 176 (.slice x0 y0 z0) (i2) fun a4=>ldA 276 (a4) fun a6=>cv (x1) [.agg (.mk a6)]<|fun v7=>unB v7 fun b8=>br (b8) (K (.int .i64 i2))<|self0 [.int .i64 (w64 (i2+1))])<|K (.int .i64 (-1))) [.int .i64 0]
theorem f320 {x0:Option Addr} {y0 z0:Nat} {x1:Value} (h:s320 x0 y0 z0 x1 K cs):fn 320 [.slice x0 y0 z0,x1] K cs:=fO (an:=⟨[(2,[(8,.int .i64)])],[]⟩) Tryz.func320 h
@[reducible] def s387 (x0:Option Addr) (y0:Nat) (z0:Nat) (K:Value→SP):SP:=
 br (x0.isNone) (K (.slice none 0 0))<|sm (Instr.buildSlice 144 0 (Array.mk []))<|fun v0=>unL v0 fun a1 n2 c3=>sm (Builtin.append_ (Array.mk [144,144]) 144 (Array.mk [.slice a1 n2 c3,.slice x0 y0 z0]))<|fun v4=>unL v4 fun a5 n6 c7=>K (.slice a5 n6 c7)
theorem f387 {x0:Option Addr} {y0 z0:Nat} (h:s387 x0 y0 z0 K cs):fn 387 [.slice x0 y0 z0] K cs:=fO (an:=⟨[],[]⟩) Tryz.func387 h
@[reducible] def s397 (x0:Option Addr) (y0:Nat) (z0:Nat) (x1:Option Addr) (y1:Nat) (z1:Nat) (K:Value→SP):SP:=
 br ((y0:Int) != (y1:Int)) (K (.bool false))<|Lp (fun self0 l1=>unI .i64 (l1.headD undef) fun i2=>br (decide (i2<(y0:Int))) (ix 95 (.slice x0 y0 z0) (i2) fun a4=>ldA 146 (a4) fun a6=>ix 95 (.slice x1 y1 z1) (i2) fun a8=>ldA 146 (a8) fun a10=>qy (bsem BinOp.neq 146 (Operand.tmp 19) (Operand.tmp 23) (.agg (.mk a6)) (.agg (.mk a10)))<|fun v11=>unB v11 fun b12=>br (b12) (K (.bool false))<|self0 [.int .i64 (w64 (i2+1))])<|K (.bool true)) [.int .i64 0]
theorem f397 {x0:Option Addr} {y0 z0:Nat} {x1:Option Addr} {y1 z1:Nat} (h:s397 x0 y0 z0 x1 y1 z1 K cs):fn 397 [.slice x0 y0 z0,.slice x1 y1 z1] K cs:=fO (an:=⟨[(4,[(13,.int .i64)])],[]⟩) Tryz.func397 h
@[reducible] def s459 (x0:Option Addr) (y0:Nat) (z0:Nat) (x1:Value) (K:Value→SP):SP:=
 fn 470 [.slice x0 y0 z0,x1]<|fun v0=>unI .i64 v0 fun n1=>K (.bool (decide (n1≥0)))
theorem f459 {x0:Option Addr} {y0 z0:Nat} {x1:Value} (h:s459 x0 y0 z0 x1 K cs):fn 459 [.slice x0 y0 z0,x1] K cs:=fO (an:=⟨[],[]⟩) Tryz.func459 h
@[reducible] def s470 (x0:Option Addr) (y0:Nat) (z0:Nat) (x1:Value) (K:Value→SP):SP:=
 Lp (fun self0 l1=>unI .i64 (l1.headD undef) fun i2=>br (decide (i2<(y0:Int))) (ix 246 (.slice x0 y0 z0) (i2) fun a4=>ldA 416 (a4) fun a6=>cv (x1) [.agg (.mk a6)]<|fun v7=>unB v7 fun b8=>br (b8) (K (.int .i64 i2))<|self0 [.int .i64 (w64 (i2+1))])<|K (.int .i64 (-1))) [.int .i64 0]
theorem f470 {x0:Option Addr} {y0 z0:Nat} {x1:Value} (h:s470 x0 y0 z0 x1 K cs):fn 470 [.slice x0 y0 z0,x1] K cs:=fO (an:=⟨[(2,[(8,.int .i64)])],[]⟩) Tryz.func470 h
@[reducible] def s267 (x0:Option Addr) (y0:Nat) (z0:Nat) (K:Value→SP):SP:=
 Lp (fun self0 l1=>unI .i64 (l1.headD undef) fun i2=>br (decide (i2<(y0:Int))) (ix 34 (.slice x0 y0 z0) (i2) fun a4=>ldI .i64 3 (a4) fun n6=>br (n6 != 0) (K (.int .i64 n6))<|self0 [.int .i64 (w64 (i2+1))])<|K (.int .i64 0)) [.int .i64 0]
theorem f267 {x0:Option Addr} {y0 z0:Nat} (h:s267 x0 y0 z0 K cs):fn 267 [.slice x0 y0 z0] K cs:=fO (an:=⟨[(3,[(8,.int .i64)])],[]⟩) Tryz.func267 h
@[reducible] def s268 (x0:Int) (x1:Int) (K:Value→SP):SP:=
 fn 350 [.int .i64 x0]<|fun v0=>unB v0 fun b1=>fn 350 [.int .i64 x1]<|fun v2=>unB v2 fun b3=>br (b1) (br (b3) (K (.int .i64 0))<|K (.int .i64 (-1)))<|br (b3) (K (.int .i64 1))<|br (decide (x0<x1)) (K (.int .i64 (-1)))<|br (decide (x0>x1)) (K (.int .i64 1))<|K (.int .i64 0)
theorem f268 {x0 x1:Int} (h:s268 x0 x1 K cs):fn 268 [.int .i64 x0,.int .i64 x1] K cs:=fO (an:=⟨[],[]⟩) Tryz.func268 h
@[reducible] def s269 (x0:Int) (x1:Int) (K:Value→SP):SP:=
 fn 351 [.int .i64 x0]<|fun v0=>unB v0 fun b1=>fn 351 [.int .i64 x1]<|fun v2=>unB v2 fun b3=>br (b1) (br (b3) (K (.int .i64 0))<|K (.int .i64 (-1)))<|br (b3) (K (.int .i64 1))<|br (decide (x0<x1)) (K (.int .i64 (-1)))<|br (decide (x0>x1)) (K (.int .i64 1))<|K (.int .i64 0)
theorem f269 {x0 x1:Int} (h:s269 x0 x1 K cs):fn 269 [.int .i64 x0,.int .i64 x1] K cs:=fO (an:=⟨[],[]⟩) Tryz.func269 h
@[reducible] def s350 (x0:Int) (K:Value→SP):SP:=
 K (.bool (x0 != x0))
theorem f350 {x0:Int} (h:s350 x0 K cs):fn 350 [.int .i64 x0] K cs:=fO (an:=⟨[],[]⟩) Tryz.func350 h
@[reducible] def s351 (x0:Int) (K:Value→SP):SP:=
 K (.bool (x0 != x0))
theorem f351 {x0:Int} (h:s351 x0 K cs):fn 351 [.int .i64 x0] K cs:=fO (an:=⟨[],[]⟩) Tryz.func351 h
end Go.Proofs.YtbjlfobjngogkaaGreatDoor
namespace Go.Proofs.YtbjlfobjngogkaaGreatDoor
open Go
set_option synthInstance.maxSize 100000
set_option synthInstance.maxHeartbeats 1000000
set_option maxRecDepth 100000
theorem info396:∃i,Tryz.prog.info? 396=some i∧i.size=1:=by
 have h:(Tryz.prog.info? 396).map (·.size)=some 1:=by kernel_rfl
 cases hi:Tryz.prog.info? 396 with
 | none=>rw [hi]at h;cases h
 | some i=>rw [hi]at h;exact⟨i,rfl,Option.some.inj h⟩
theorem guard412:Tryz.prog.eqGuardType Tryz.prog.depth 412=false:=by kernel_rfl
theorem cells396:Tryz.prog.cellsOf 396=1:=by kernel_rfl
theorem plain396:Tryz.prog.plainKey 396=true:=by kernel_rfl
theorem run_items {w:World} (s t:Nat):∀(is:List Nat),(∀i∈is,i<4)→(Op.eqItems 9999 396 1 ⟨wv s⟩ ⟨wv t⟩ is).run Tryz.prog w= .ok (is.all fun i=>wN s i == wN t i) w
 | [],_=>by simp [Op.eqItems]
 | i::is,h=>by
  have hi:=h i (by simp)
  have g:∀s,(⟨wv s⟩:Array Value)[i*1]? =some (.int .u64 (wN s i:Nat)):=fun s=>by
   match i,hi with
   | 0,_=>rfl
   | 1,_=>rfl
   | 2,_=>rfl
   | 3,_=>rfl
  have e:=run_equalIn_int (P:=Tryz.prog) (w:=w) 9998 396 .u64 .u64 (wN s i:Nat) (wN t i:Nat) Tryz.underlying396
  simp only [Op.eqItems,Sem.run_bind,run_part_plain w plain396 (g s),run_part_plain w plain396 (g t),Result.andThen_ok]
  rw [e]
  have ih:=run_items (w:=w) s t is fun j hj=>h j (by simp [hj])
  by_cases hc:wN s i=wN t i
  ·simp [hc,ih]
  ·have:¬((wN s i:Nat):Int)=((wN t i:Nat):Int):=by omega
   simp [hc,this]
theorem wN_all {s t:Nat} (hs:s<2 ^ 256) (ht:t<2 ^ 256):((List.range 4).all fun i=>wN s i == wN t i)=(s == t):=by
 rw [Bool.eq_iff_iff]
 simp only [List.all_eq_true,List.mem_range,beq_iff_eq]
 refine⟨fun h=> ?_,fun h i _=>by rw [h]⟩
 apply Nat.eq_of_testBit_eq
 intro j
 by_cases hj:j<256
 ·have h1:=wN_bit s (j / 64) (j % 64)
  have h2:=wN_bit t (j / 64) (j % 64)
  rw [h (j / 64) (by omega),h2]at h1
  have e:64*(j / 64)+j % 64=j:=by omega
  have h3:j % 64<64:=Nat.mod_lt _ (by decide)
  rw [e]at h1
  simpa [h3]using h1.symm
 ·rw [Nat.testBit_lt_two_pow (Nat.lt_of_lt_of_le hs (Nat.pow_le_pow_right (by decide) (by omega))),Nat.testBit_lt_two_pow (Nat.lt_of_lt_of_le ht (Nat.pow_le_pow_right (by decide) (by omega)))]
section
variable {cs:St} {K:Value→SP}
instance neqSet {x y:Operand} {s t:Nat}:Go1 (qy (bsem .neq 412 x y (.agg ⟨wv s⟩) (.agg ⟨wv t⟩)) K cs) ((s<2 ^ 256∧t<2 ^ 256)∧K (.bool (s != t)) cs):=⟨fun⟨⟨hs,ht⟩,h⟩=>by
 obtain⟨i,hi,_⟩:=info396
 refine⟨_,fun E w _=> ?_,h⟩
 simp only [bsem,Sem.run_bind,run_eqGuard_agg (P:=Tryz.prog) w .neq 412 x y _ _ guard412,Result.andThen_ok]
 rw [run_neq_struct]
 have e:=run_equalIn_array (P:=Tryz.prog) w 9999 (t:=412) (e:=396) (n:=4) (i:=i) ⟨wv s⟩ ⟨wv t⟩ Tryz.underlying412 hi
 rw [cells396,run_items s t _ (fun i hi=>List.mem_range.1 hi),wN_all hs ht]at e
 rw [e]
 rfl⟩
theorem cv_fn {f:Nat} {args:List Value} (h:fn f args K cs):cv (.func (.func f) ⟨[]⟩ ⟨[]⟩) args K cs:=⟨f,⟨[]⟩,⟨[]⟩,rfl,by simpa [fn]using h⟩
instance {f:Nat} {args:List Value}:Go1 (cv (.func (.func f) ⟨[]⟩ ⟨[]⟩) args K cs) (fn f args K cs):=⟨cv_fn⟩
class PredF (f:Nat) (p:outParam (Item→Bool)):Prop where
 h:∀{K:Value→SP} {cs:St} {x:Item},x.2<2 ^ 256→K (.bool (p x)) cs→fn f [.agg ⟨encI.f x⟩] K cs
instance pr469:PredF 469 oddI:=⟨fun{K cs x} hx h=>up0 (f469 (by
 obtain⟨r,t⟩:=x
 unfold s469
 refine go fun b1=>⟨fun g=> ?_,fun g=> ?_⟩
 ·refine⟨⟨hx,by decide⟩,?_⟩
  have e:oddI (r,t)=(t != 0):=by
   have g':r=true:=g
   simp only [oddI,g',Bool.true_and]
  rw [e]at h
  exact fin h
 ·have e:oddI (r,t)=false:=by
   have g':r=false:=g
   simp only [oddI,g',Bool.false_and]
  rw [e]at h
  exact fin h))⟩
instance pr460:PredF 460 (fun x=> !x.1):=⟨fun{K cs x} hx h=>up0 (f460 (by
 unfold s460
 exact go fun b1=>fin h))⟩
section
variable {a:Option Addr} {n c:Nat} {l:List Item}
theorem c470 {f:Nat} {p:Item→Bool} (q:PredF f p) [r:Rw 416 5 cs a n c encI l] (hl:∀x∈l,x.2<2 ^ 256) (hn:n<1000000000000) (h:K (.int .i64 (if l.any p then(l.findIdx p:Nat)else -1)) cs):fn 470 [.slice a n c,.func (.func f) ⟨[]⟩ ⟨[]⟩] K cs:=f470 (by
 unfold s470
 have hlen:=r.h.len
 refine lp (fun k:Nat=>[.int .i64 k]) (fun _=>cs) (fun k=>k≤n∧∀x∈l.take k,p x=false) (fun k=>n-k) 0 rfl (Imp.refl _) ⟨Nat.zero_le _,by simp⟩ ?_
 rintro k ⟨h1,h2⟩
 dsimp only at *
 refine go ?_
 simp only [decide_eq_true_eq,decide_eq_false_iff_not,Int.toNat_natCast]
 refine⟨fun c0=>⟨by omega,fun x hx=> ?_⟩,fun c0=> ?_⟩
 ·refine q.h (hl x (List.mem_of_getElem? hx)) ?_
  have hk:k<l.length:=by omega
  have hx2:l[k]=x:=by rw [List.getElem?_eq_getElem hk]at hx;exact Option.some.inj hx
  refine go ⟨fun c1=> ?_,fun c1=>⟨k+1,by rw [w64_id (by omega)];rfl,Imp.refl _,⟨by omega,fun y hy=> ?_⟩,by omega⟩⟩
  ·have e1:l.any p=true:=List.any_eq_true.2 ⟨x,List.mem_of_getElem? hx,c1⟩
   have e2:l.findIdx p=k:=by
    rw [List.findIdx_eq hk]
    refine⟨by rw [hx2];exact c1,fun j hj=> ?_⟩
    exact h2 _ (List.mem_take_iff_getElem.2 ⟨j,by omega,rfl⟩)
   rw [e1,e2]at h
   exact h
  ·rw [List.take_succ_eq_append_getElem hk,hx2]at hy
   rcases List.mem_append.1 hy with hy | hy
   ·exact h2 y hy
   ·simp at hy;subst hy;exact c1
 ·have e1:l.any p=false:=by
   rw [List.any_eq_false]
   intro x hx
   have:l.take k=l:=List.take_of_length_le (by omega)
   rw [←this]at hx
   simp [h2 x hx]
  rw [e1]at h
  exact h)
instance c459 {f:Nat} {p:Item→Bool} [q:PredF f p] [r:Rw 416 5 cs a n c encI l]:Go1 (fn 459 [.slice a n c,.func (.func f) ⟨[]⟩ ⟨[]⟩] K cs) (((∀x∈l,x.2<2 ^ 256)∧n<1000000000000)∧K (.bool (l.any p)) cs):=⟨fun h=>f459 (by
 unfold s459
 refine c470 q (l:=l) h.1.1 h.1.2 (go (keq h.2 ?_))
 congr 1
 cases l.any p <;>simp)⟩
instance c458 [r:Rw 416 5 cs a n c encI l]:Go1 (fn 458 [.slice a n c] K cs) (((∀x∈l,x.2<2 ^ 256)∧n<1000000000000)∧K (.bool (goodI l)) cs):=⟨fun h=>f458 (by
 unfold s458
 have hlen:=r.h.len
 refine go ⟨fun c0=>⟨h.1,keq h.2 ?_⟩,fun c0=>keq h.2 ?_⟩
 ·simp only [decide_eq_true_eq]at c0
  have:l.length≤60:=by omega
  simp only [goodI,this,decide_true,Bool.true_and]
 ·simp only [decide_eq_false_iff_not]at c0
  have:¬l.length≤60:=by omega
  simp only [goodI,this,decide_false,Bool.false_and])⟩
instance c442 [r:Rw 416 5 cs a n c encI l]:Go1 (fn 442 [.slice a n c] K cs) (((∀x∈l,x.2<2 ^ 256)∧n<1000000000000)∧K (.bool (goodI l)) cs):=⟨fun h=>f442 (by unfold s442;exact go h)⟩
instance c443 [r:Rw 416 5 cs a n c encI l]:Go1 (fn 443 [.slice a n c] K cs) (((∀x∈l,x.2<2 ^ 256)∧n<1000000000000)∧K (.bool (emptyI l)) cs):=⟨fun h=>f443 (by unfold s443;exact go h)⟩
end
end
def tabC (b:Nat) (x:Int×Int×List Int):Chunk:=bk b 534 (.int .i64 x.1:: .int .u64 x.2.1::List.map (Value.int .u64) x.2.2)
section
variable {cs:St} {b:Nat} {n r:Int} {l:List Int} {put:Chunk→St}
instance tabRd [o:Ob tabC cs b (n,r,l) put]:RdB cs b 534 (.int .i64 n:: .int .u64 r::List.map (Value.int .u64) l):=⟨by
 obtain⟨i,h,_⟩:=o.h;exact Rd.in h (by simp [tabC,bk])⟩
instance (priority:=5000) tabHas [o:Ob tabC cs b (n,r,l) put] {i:Int} {K:Int→SP}:Go1 (ix 532 (.pointer (some ((ad b 0).add 2))) i (fun a=>ldI .u64 396 a K) cs) ((0≤i∧i<256∧i<l.length)∧K (l.getD i.toNat 0) cs):=⟨fun h=>by
 obtain⟨⟨h0,h1,h2⟩,h⟩:=h
 refine arIxi.h ⟨⟨h0,h1⟩,?_⟩
 have hl:i.toNat<l.length:=by omega
 refine qy_rd (tabRd (o:=o)).h (v:= .int .u64 (l.getD i.toNat 0)) ?_ (by kernel_rfl) ⟨_,rfl,h⟩
 rw [Nat.add_comm]
 simp [List.getD_eq_getElem?_getD,List.getElem?_eq_getElem hl]⟩
instance (priority:=5000) tabSet [o:Ob tabC cs b (n,r,l) put] {i v:Int} {K:SP}:Go1 (ix 532 (.pointer (some ((ad b 0).add 2))) i (fun a=>st 396 a (.int .u64 v) K) cs) ((0≤i∧i<256∧i<l.length)∧K (put (tabC b (n,r,l.set i.toNat v)))):=⟨fun h=>by
 obtain⟨⟨h0,h1,h2⟩,h⟩:=h
 refine arIxi.h ⟨⟨h0,h1⟩,?_⟩
 obtain⟨k,g1,g2⟩:=o.h
 refine st_wr (l:=[.int .u64 v]) rfl (by simp [one]) (by kernel_rfl) ⟨k,534,_,g1,by simp;omega,rfl⟩ ?_
 rw [g2]at h
 have e:lay (.int .i64 n:: .int .u64 r::List.map (Value.int .u64) l) (2+i.toNat) [.int .u64 v]= .int .i64 n:: .int .u64 r::List.map (Value.int .u64) (l.set i.toNat v):=by
  rw [Nat.add_comm]
  simp [lay,List.map_set]
 rw [e]
 exact h⟩
instance tabRuns [o:Ob tabC cs b (n,r,l) put] {v:Int} {K:SP}:Go1 (st 396 ((ad b 0).add 1) (.int .u64 v) K cs) (K (put (tabC b (n,v,l)))):=⟨fun h=>by
 obtain⟨k,g1,g2⟩:=o.h
 rw [add_ad]
 refine st_wr (l:=[.int .u64 v]) rfl (by simp [one]) (by kernel_rfl) ⟨k,534,_,g1,by simp,rfl⟩ ?_
 rw [g2]at h
 exact h⟩
end
def tableC (b:Nat) (l:List Item):Chunk:=tabC b (l.length,(tRuns l:Nat),hasL l l.length)
theorem hasL_len (l:List Item) (k:Nat):(hasL l k).length=256:=by simp [hasL]
theorem hasL_get (l:List Item) (k:Nat) {b:Nat} (h:b<256):(hasL l k).getD b 0=(bitsTo (fun x=>sHas x.2 b) l k:Nat):=by
 rw [List.getD_eq_getElem?_getD,hasL,List.getElem?_map,List.getElem?_range h];rfl
theorem hasL_zero (l:List Item):hasL l 0=List.replicate 256 0:=by
 apply List.ext_getElem (by simp [hasL_len])
 intro i h1 h2
 rw [hasL_len]at h1
 have:=hasL_get l 0 h1
 rw [List.getD_eq_getElem?_getD,List.getElem?_eq_getElem (by rw [hasL_len];exact h1)]at this
 rw [List.getElem_replicate]
 exact this
section
variable {cs:St} {K:Value→SP} {a:Option Addr} {n c:Nat} {l:List Item}
instance c429 [r:Rw 416 5 cs a n c encI l]:Go1 (fn 429 [.slice a n c] K cs) (((∀x∈l,x.2<2 ^ 256)∧n<1000000000000)∧(goodI l=false→K (.tuple ⟨[.pointer none,.int .i64 2]⟩) cs)∧
  ((goodI l=true∧emptyI l=true)→K (.tuple ⟨[.pointer none,.int .i64 9]⟩) cs)∧((goodI l=true∧emptyI l=false)→∀b,K (.tuple ⟨[.pointer (some (ad b 0)),.int .i64 0]⟩) (tableC b l::cs))):=⟨fun h=>up0 (f429 (by
 obtain⟨⟨hl,hn⟩,h1,h2,h3⟩:=h
 unfold s429
 have hlen:=r.h.len
 refine go ⟨⟨hl,hn⟩,fun g1=> ?_,fun g1=>⟨⟨hl,hn⟩,fun g2=> ?_,fun g2 b=> ?_⟩⟩
 ·exact fin (h1 (by simpa using g1))
 ·exact fin (h2 ⟨by simpa using g1,g2⟩)
 ·have h4:=h3 ⟨by simpa using g1,g2⟩ b
  clear h1 h2 h3
  have hg:goodI l=true:=by simpa using g1
  have h60:l.length≤60:=by
   simp only [goodI,Bool.and_eq_true,decide_eq_true_eq]at hg;exact hg.1
  refine lp (fun k:Nat=>[.int .i64 k]) (fun k=>tabC b (l.length,(bitsTo (fun x=>x.1) l k:Nat),hasL l k)::cs) (fun k=>k≤n) (fun k=>n-k) 0 rfl ?_ (Nat.zero_le _) ?_
  ·rw [hasL_zero,←hlen];exact Imp.refl _
  intro k hk
  dsimp only
  refine go ?_
  simp only [decide_eq_true_eq,decide_eq_false_iff_not,Int.toNat_natCast]
  refine⟨fun c0=>⟨by omega,fun x hx b2=> ?_⟩,fun c0=> ?_⟩
  ·have hk64:k<64:=by omega
   rw [wrap_nat (by omega),pow_bit hk64]
   refine⟨by omega,?_⟩
   have hkl:k<l.length:=by omega
   have hxk:l.getD k (false,0)=x:=by rw [List.getD_eq_getElem?_getD,hx];rfl
   have hx2:=hl x (List.mem_of_getElem? hx)
   have hr:∀p,bitsTo p l k<18446744073709551616:=fun p=>Nat.lt_trans (bitsTo_lt p l k) (pow_lt64 hk64)
   refine⟨fun _ c1=>Imp c1 (bk b2 416 (.bool x.1::wv x.2)::tabC b (l.length,(bitsTo (fun x=>x.1) l (k+1):Nat),hasL l k)::cs),fun _ c1 hc=>⟨_,hc,?_⟩,?_⟩
   ·refine lp (fun y:Nat×List Int=>[.int .i64 y.1]) (fun y=>bk b2 416 (.bool x.1::wv x.2)::tabC b (l.length,(bitsTo (fun x=>x.1) l (k+1):Nat),y.2)::cs)
     (fun y=>y.1≤256∧y.2.length=256∧(∀i,i<y.1→y.2.getD i 0=(bitsTo (fun x=>sHas x.2 i) l (k+1):Nat))∧∀i,y.1≤i→i<256→y.2.getD i 0=(bitsTo (fun x=>sHas x.2 i) l k:Nat)) (fun y=>256-y.1)
     (0,hasL l k) rfl drp ⟨Nat.zero_le _,hasL_len _ _,fun i hi=>absurd hi (Nat.not_lt_zero _),fun i _ hi=>hasL_get l k hi⟩ ?_
    rintro⟨m,hl'⟩ ⟨i1,i2,i3,i4⟩
    dsimp only at *
    refine go ?_
    simp only [decide_eq_true_eq,decide_eq_false_iff_not]
    refine⟨fun c2=> ?_,fun c2=> ?_⟩
    ·have hm:m<256:=by omega
     rw [w8 hm]
     have w1:w64 ((m:Int)+1)=((m+1:Nat):Int):=by rw [w64_id (by omega)];rfl
     rw [w1]
     refine go ⟨hm,fun c3=>⟨by omega,by omega,?_⟩,fun c3=> ?_⟩
     ·rw [Int.toNat_natCast,i4 m (Nat.le_refl _) hm,uor (hr _) (pow_lt64 hk64)]
      have e1:bitsTo (fun x=>sHas x.2 m) l k|||2 ^ k=bitsTo (fun x=>sHas x.2 m) l (k+1):=by rw [bitsTo,hxk,if_pos c3]
      rw [e1]
      refine⟨(m+1,hl'.set m (bitsTo (fun x=>sHas x.2 m) l (k+1):Nat)),rfl,drp,⟨hm,by simp [i2],fun i hi=> ?_,fun i h1 h2=> ?_⟩,by simp only;omega⟩
      ·by_cases he:i=m
       ·subst he;exact set_get (by omega) _
       ·rw [List.getD_eq_getElem?_getD,List.getElem?_set_ne (by omega),←List.getD_eq_getElem?_getD];exact i3 i (by simp only at hi;omega)
      ·rw [List.getD_eq_getElem?_getD,List.getElem?_set_ne (by simp only at h1;omega),←List.getD_eq_getElem?_getD];exact i4 i (by simp only at h1;omega) h2
     ·refine⟨(m+1,hl'),rfl,drp,⟨hm,i2,fun i hi=> ?_,fun i h1 h2=>i4 i (by simp only at h1;omega) h2⟩,by simp only;omega⟩
      by_cases he:i=m
      ·subst he
       rw [i4 i (Nat.le_refl _) hm,bitsTo,hxk,if_neg (by rw [c3];decide)]
      ·exact i3 i (by simp only at hi;omega)
    ·have hm:m=256:=by omega
     subst hm
     have e:hl'=hasL l (k+1):=by
      apply List.ext_getElem (by rw [i2,hasL_len])
      intro i h1 h2
      have e1:=i3 i (by omega)
      have e2:=hasL_get l (k+1) (b:=i) (by omega)
      rw [List.getD_eq_getElem?_getD,List.getElem?_eq_getElem h1]at e1
      rw [List.getD_eq_getElem?_getD,List.getElem?_eq_getElem h2]at e2
      exact e1.trans e2.symm
     subst e
     exact⟨k+1,by rw [w64_id (by omega)];rfl,drp,by omega,by omega⟩
   ·refine go ⟨fun c1=> ?_,fun c1=> ?_⟩
    ·have e1:bitsTo (fun x=>x.1) l (k+1)=bitsTo (fun x=>x.1) l k|||2 ^ k:=by rw [bitsTo,hxk,if_pos c1]
     rw [e1,uor (hr _) (pow_lt64 hk64)]
     exact drp
    ·have e1:bitsTo (fun x=>x.1) l (k+1)=bitsTo (fun x=>x.1) l k:=by rw [bitsTo,hxk,if_neg (by rw [c1];decide)]
     rw [e1]
     exact drp
  ·have e:k=l.length:=by omega
   subst e
   unfold tableC tRuns at h4
   exact fin h4))⟩
end
class Tab (cs:St) (b:Nat) (l:outParam (List Item)):Prop where
 h:Rd cs b 534 (.int .i64 l.length:: .int .u64 (tRuns l:Nat)::List.map (Value.int .u64) (hasL l l.length))∧l.length≤60
section
variable {cs:St} {b:Nat} {l:List Item}
instance tabB [t:Tab cs b l]:RdB cs b 534 (.int .i64 l.length:: .int .u64 (tRuns l:Nat)::List.map (Value.int .u64) (hasL l l.length)):=⟨t.h.1⟩
instance tabCons {d:Chunk} [t:Tab cs b l]:Tab (d::cs) b l:=⟨t.h.1.cons,t.h.2⟩
instance (priority:=5000) tabLd [t:Tab cs b l] {j:Nat} {K:Int→SP}:Go1 (ldI .u64 396 (ad b (2+j)) K cs) (j<256∧K (tHas l j:Nat) cs):=⟨fun⟨h1,h⟩=>by
 refine qy_rd t.h.1 (v:= .int .u64 (tHas l j:Nat)) ?_ (by kernel_rfl) ⟨_,rfl,h⟩
 have e:=hasL_get l l.length h1
 rw [List.getD_eq_getElem?_getD,List.getElem?_eq_getElem (by rw [hasL_len];exact h1)]at e
 rw [Nat.add_comm]
 have e2:(hasL l l.length)[j]? =some ((tHas l j:Nat):Int):=by
  rw [List.getElem?_eq_getElem (by rw [hasL_len];exact h1)]
  exact congrArg some e
 simp [e2]⟩
theorem runs_lt (l:List Item):tRuns l<2 ^ l.length:=bitsTo_lt _ _ _
theorem p61 {n:Nat} (h:n≤60):2 ^ (n+1)≤2305843009213693952:=Nat.pow_le_pow_right (j:=61) (by decide) (by omega)
theorem run_lt (y:Nat) {r n:Nat} (h:r<2 ^ n):(y&&&r)*2<2 ^ (n+1):=by
 have:y&&&r≤r:=Nat.and_le_right
 rw [Nat.pow_succ];omega
variable {K:Value→SP}
instance c445 [t:Tab cs b l] {x:Nat}:Go1 (fn 445 [.pointer (some (ad b 0)),.int .u64 (x:Int)] K cs) (x<18446744073709551616∧K (.int .u64 (tClose l x:Nat)) cs):=⟨fun h=>f445 (by
 obtain⟨hx,h⟩:=h
 have h60:=t.h.2
 unfold s445
 refine go ?_
 have hp:=p61 h60
 have hpos:0<2 ^ (l.length+1):=Nat.pow_pos (by decide)
 have e0:IntKind.wrap .u64 (l.length:Int)=(l.length:Int):=wrap_nat (by omega)
 have e1:(2:Int)*2 ^ l.length=((2 ^ (l.length+1):Nat):Int):=by rw [Nat.pow_succ,Nat.mul_comm];norm_cast
 have e2:IntKind.wrap .u64 ((2 ^ (l.length+1):Nat):Int)=((2 ^ (l.length+1):Nat):Int):=wrap_nat (by omega)
 have e3:((2 ^ (l.length+1):Nat):Int)-1=((2 ^ (l.length+1)-1:Nat):Int):=by omega
 have e4:IntKind.wrap .u64 ((2 ^ (l.length+1)-1:Nat):Int)=((2 ^ (l.length+1)-1:Nat):Int):=wrap_nat (by omega)
 rw [e0,Int.toNat_natCast,Nat.min_eq_left (by omega),e1,e2,e3,e4,uand hx (by omega),Nat.and_two_pow_sub_one_eq_mod]
 refine⟨by omega,?_⟩
 have hrl:=runs_lt l
 have hr64:tRuns l<18446744073709551616:=Nat.lt_trans hrl (pow_lt64 (by omega))
 refine lp (fun y:Nat=>[.int .u64 y]) (fun _=>cs) (fun y=>y<2 ^ (l.length+1)∧(∀i,y.testBit i=true→cl (tRuns l) x i=true)∧∀i,i≤l.length→x.testBit i=true→y.testBit i=true) (fun y=>2 ^ (l.length+1)-y) (x % 2 ^ (l.length+1)) rfl (Imp.refl _)
  ⟨Nat.mod_lt _ hpos,fun i hi=> ?_,fun i hi h2=> ?_⟩ ?_
 ·rw [Nat.testBit_mod_two_pow,Bool.and_eq_true]at hi
  cases i with
  | zero=>exact hi.2
  | succ i=>rw [cl,hi.2,Bool.true_or]
 ·rw [Nat.testBit_mod_two_pow,h2];simp;omega
 rintro y ⟨i1,i2,i3⟩
 dsimp only
 have y64:y<18446744073709551616:=by omega
 have hl:=run_lt y hrl
 refine go ?_
 have f1:=uand y64 hr64
 have f2:((y&&&tRuns l:Nat):Int)*2=(((y&&&tRuns l)*2:Nat):Int):=by omega
 have f3:IntKind.wrap .u64 (((y&&&tRuns l)*2:Nat):Int)=(((y&&&tRuns l)*2:Nat):Int):=wrap_nat (by omega)
 rw [f1,f2,f3,uor y64 (by omega)]
 simp only [beq_iff_eq,beq_eq_false_iff_ne,ne_eq]
 refine⟨fun c=> ?_,fun c=>⟨y|||((y&&&tRuns l)*2),rfl,Imp.refl _,⟨Nat.or_lt_two_pow i1 hl,fun i hi=> ?_,fun i h1 h2=> ?_⟩,?_⟩⟩
 ·have e:y=tClose l x:=clN_eq i1 i2 i3 (by omega)
  rw [←e]at h
  exact h
 ·rw [Nat.testBit_or,Bool.or_eq_true]at hi
  rcases hi with hi | hi
  ·exact i2 i hi
  ·cases i with
   | zero=>rw [tw_bit0]at hi;cases hi
   | succ i=>
    rw [tw_bit,Nat.testBit_and,Bool.and_eq_true]at hi
    rw [cl,i2 i hi.1,hi.2];simp
 ·rw [Nat.testBit_or,i3 i h1 h2,Bool.true_or]
 ·have h5:y≤y|||((y&&&tRuns l)*2):=Nat.left_le_or
  have h6:y|||((y&&&tRuns l)*2)<2 ^ (l.length+1):=Nat.or_lt_two_pow i1 hl
  omega)⟩
instance c430 [t:Tab cs b l]:Go1 (fn 430 [.pointer (some (ad b 0))] K cs) (K (.int .u64 (tStart l:Nat)) cs):=⟨fun h=>f430 (by
 unfold s430
 exact(c445 (x:=1)).h ⟨by decide,go h⟩)⟩
instance c416 [t:Tab cs b l]:Go1 (fn 416 [.pointer (some (ad b 0))] K cs) (K (.int .u64 (tStart l:Nat)) cs):=⟨fun h=>f416 (by unfold s416;exact go h)⟩
theorem close64 {l:List Item} (h:l.length≤60) (x:Nat):tClose l x<18446744073709551616:=by
 have:=tClose_lt l x;have:=p61 h;omega
theorem has_lt (l:List Item) (c:Nat):tHas l c<2 ^ l.length:=bitsTo_lt _ _ _
instance c471 [t:Tab cs b l] {x c:Nat}:Go1 (fn 471 [.pointer (some (ad b 0)),.int .u64 (x:Int),.int .u8 (c:Int)] K cs) ((x<18446744073709551616∧c<256)∧K (.int .u64 (tStep l x c:Nat)) cs):=⟨fun h=>f471 (by
 obtain⟨⟨hx,hc⟩,h⟩:=h
 have h60:=t.h.2
 have hp:=p61 h60
 have hy:=close64 h60 x
 have hrl:=runs_lt l
 have hr64:tRuns l<18446744073709551616:=Nat.lt_trans hrl (pow_lt64 (by omega))
 have hh64:tHas l c<18446744073709551616:=Nat.lt_trans (has_lt l c) (pow_lt64 (by omega))
 have hl:=run_lt (tClose l x) (has_lt l c)
 unfold s471
 refine go ⟨hx,⟨by omega,by omega⟩,by omega,?_⟩
 rw [Int.toNat_natCast]
 have f1:=uand hy hr64
 have f1':=uand hy hh64
 have f2:((tClose l x&&&tHas l c:Nat):Int)*2=(((tClose l x&&&tHas l c)*2:Nat):Int):=by omega
 have f3:IntKind.wrap .u64 (((tClose l x&&&tHas l c)*2:Nat):Int)=(((tClose l x&&&tHas l c)*2:Nat):Int):=wrap_nat (by omega)
 have h5:tClose l x&&&tRuns l≤tRuns l:=Nat.and_le_right
 rw [f1,f1',f2,f3,uor (by omega) (by omega)]
 refine go ⟨Nat.or_lt_two_pow (n:=64) (by omega) (by omega),h⟩)⟩
instance c462 [t:Tab cs b l] {x c:Nat}:Go1 (fn 462 [.pointer (some (ad b 0)),.int .u64 (x:Int),.int .u8 (c:Int)] K cs) ((x<18446744073709551616∧c<256)∧K (.int .u64 (tSeek l x c:Nat)) cs):=⟨fun h=>f462 (by
 have h60:=t.h.2
 unfold s462
 refine go ⟨h.1,?_⟩
 have e:=uor (x:=tStep l x c) (y:=tStart l) (close64 h60 _) (close64 h60 _)
 rw [e]
 exact h.2)⟩
instance c463 [t:Tab cs b l] {x:Nat}:Go1 (fn 463 [.pointer (some (ad b 0)),.int .u64 (x:Int)] K cs) (x<18446744073709551616∧K (.bool (tDone l x)) cs):=⟨fun h=>f463 (by
 obtain⟨hx,h⟩:=h
 have h60:=t.h.2
 unfold s463
 refine go ⟨hx,?_⟩
 have e0:IntKind.wrap .u64 (l.length:Int)=(l.length:Int):=wrap_nat (by omega)
 rw [e0,Int.toNat_natCast,Nat.min_eq_left (by omega)]
 have hp:(2:Int) ^ l.length=((2 ^ l.length:Nat):Int):=by norm_cast
 have e:((tClose l x:Nat):Int).fdiv (2 ^ l.length)=((tClose l x / 2 ^ l.length:Nat):Int):=by
  rw [hp,Int.fdiv_eq_ediv_of_nonneg _ (Int.natCast_nonneg _)]
  exact(Int.natCast_ediv _ _).symm
 rw [e,bit1]
 refine⟨by omega,keq h ?_⟩
 congr 1
 rw [tDone,Nat.testBit_eq_decide_div_mod_eq,Bool.eq_iff_iff]
 simp)⟩
end
theorem gGo_in (s:List UInt8):∀(f:Nat) (out:List Item) (k:Nat) {l:List Item},gGo s f out k= .ok l→(∀x∈out,x.2<2 ^ 256∧(x.1=true→x.2=0))→out.length≤60→(∀x∈l,x.2<2 ^ 256∧(x.1=true→x.2=0))∧l.length≤60
 | 0,out,k,l,h,h1,h2=>by rw [gGo]at h;cases h;exact⟨h1,h2⟩
 | f+1,out,k,l,h,h1,h2=>by
  rw [gGo]at h
  split at h
  ·rename_i hk
   split at h
   ·cases h
   ·rename_i h60
    split at h
    ·cases h
    ·rename_i x n hx
     have hi:=gItem_in (by rw [List.length_drop];omega) hx
     refine gGo_in s f _ _ h (fun y hy=> ?_) (by simp;omega)
     rcases List.mem_append.1 hy with hy | hy
     ·exact h1 y hy
     ·simp at hy;subst hy;exact⟨hi.2.2.1,hi.2.2.2⟩
  ·cases h;exact⟨h1,h2⟩
theorem gParse_in {s:List UInt8} {l:List Item} (h:gParse s= .ok l):(∀x∈l,x.2<2 ^ 256∧(x.1=true→x.2=0))∧l.length≤60:=gGo_in s _ _ _ h (by simp) (by simp)
theorem gGo_err (s:List UInt8):∀(f:Nat) (out:List Item) (k:Nat) {p:Nat} {e:Int},gGo s f out k= .error (p,e)→e≠0
 | 0,out,k,p,e,h=>by rw [gGo]at h;cases h
 | f+1,out,k,p,e,h=>by
  rw [gGo]at h
  split at h
  ·rename_i hk
   split at h
   ·cases h;decide
   ·split at h
    ·rename_i n e' he
     cases h
     exact(gItem_in (by rw [List.length_drop];omega) he).2
    ·exact gGo_err s f _ _ h
  ·cases h
section
variable {cs:St} {K:Value→SP}
instance c415 {s:ByteArray}:Go1 (fn 415 [.string s] K cs) (s.size≤1000000000000∧(∀p e,pCompile (bl s)= .error (p,e)→K (.tuple ⟨[.pointer none,.int .i64 (p:Nat),.int .i64 e]⟩) cs)∧
  ∀l,pCompile (bl s)= .ok l→∀b,K (.tuple ⟨[.pointer (some (ad b 0)),.int .i64 0,.int .i64 0]⟩) (tableC b l::cs)):=⟨fun h=>up0 (f415 (by
 obtain⟨h1,he,hk⟩:=h
 unfold s415
 refine go ⟨h1,fun p e hg=>⟨fun c1=> ?_,fun c1=> ?_⟩,fun l hg a c ch r=>⟨fun c1=>(by simp at c1),fun _=> ?_⟩⟩
 ·exact fin (he p e (by simp only [pCompile,hg]))
 ·exact absurd (by simpa using c1) (gGo_err _ _ _ _ hg)
 ·have hin:=gParse_in hg
  refine go ⟨⟨fun x hx=>(hin.1 x hx).1,by omega⟩,fun g1=> ?_,fun g1=> ?_,fun g1 b=> ?_⟩
  ·exact fin (he 0 2 (by simp only [pCompile,hg,g1,if_true]))
  ·exact fin (he 0 9 (by simp only [pCompile,hg,g1.1,g1.2,Bool.true_eq_false,if_true,if_false]))
  ·exact fin (hk l (by simp only [pCompile,hg,g1.1,g1.2,Bool.true_eq_false,Bool.false_eq_true,if_false]) b)))⟩
def checkV (s:List UInt8):Value:=match pCompile s with
 | .error (p,e)=> .tuple ⟨[.int .i64 (p:Nat),.int .i64 e]⟩
 | .ok _=> .tuple ⟨[.int .i64 0,.int .i64 0]⟩
instance c420 {s:ByteArray}:Go1 (fn 420 [.string s] K cs) (s.size≤1000000000000∧K (checkV (bl s)) cs):=⟨fun h=>up0 (f420 (by
 unfold s420
 refine go ⟨h.1,fun p e hp=> ?_,fun l hp b=> ?_⟩
 ·have e1:checkV (bl s)= .tuple ⟨[.int .i64 (p:Nat),.int .i64 e]⟩:=by simp only [checkV,hp]
  rw [e1]at h
  exact fin h.2
 ·have e1:checkV (bl s)= .tuple ⟨[.int .i64 0,.int .i64 0]⟩:=by simp only [checkV,hp]
  rw [e1]at h
  exact fin h.2))⟩
end
theorem Row.split {α:Type} {T sz n c:Nat} {a:Option Addr} {e:Enc α sz} {l:List α} {ch:Chunk} (r:Row T sz a n c e l ch) {k:Nat} (hk:k<l.length):
  ∃rb o X Z,a=some (ad rb o)∧o+k*sz=X.length∧ch=bk rb T (X++(e.f l[k]++Z))∧∀y,Row T sz a n c e (l.set k y) (bk rb T (X++(e.f y++Z))):=by
 have hlen:=r.len
 rcases r.h.inv with ⟨h1,h2,_⟩ | ⟨b,cap,pre,tail,h1,h2,h3,h4,h5,h6⟩
 ·omega
 ·cases h1
  have hsplit:l=l.take k++(l[k]::l.drop (k+1)):=by rw [←List.drop_eq_getElem_cons hk,List.take_append_drop]
  have e1:l.flatMap e.f=(l.take k).flatMap e.f++(e.f l[k]++(l.drop (k+1)).flatMap e.f):=by
   have:=congrArg (List.flatMap e.f) hsplit
   rw [List.flatMap_append,List.flatMap_cons]at this
   exact this
  have e3:(pre++(l.take k).flatMap e.f).length=pre.length+k*sz:=by
   rw [List.length_append,e.flat_len,List.length_take]
   congr 2;omega
  refine⟨b,pre.length,pre++(l.take k).flatMap e.f,(l.drop (k+1)).flatMap e.f++tail,rfl,e3.symm,by rw [h2,e1];simp,fun y=>⟨?_⟩⟩
  have e2:(l.set k y).flatMap e.f=(l.take k).flatMap e.f++(e.f y++(l.drop (k+1)).flatMap e.f):=by
   rw [List.set_eq_take_append_cons_drop,if_pos hk]
   simp
  have hl2:((l.set k y).flatMap e.f).length=(l.flatMap e.f).length:=by rw [e.flat_len,e.flat_len,List.length_set]
  have e5:pre++(l.take k).flatMap e.f++(e.f y++((l.drop (k+1)).flatMap e.f++tail))=pre++(l.set k y).flatMap e.f++tail:=by rw [e2];simp
  rw [e5]
  exact Sl.mk b n c pre _ tail (by rw [hl2];exact h3) (by rw [hl2];exact h4) h5 h6
instance (priority:=50) naAdd {b o j:Nat}:Na ((ad b o).add j) b (o+j):=⟨by rw [add_ad]⟩
instance getApp {X c:List Value} {j:Nat} {v:Value} [i:Get c j v]:Get (X++c) (X.length+j) v:=⟨by rw [List.getElem?_append_right (by omega),Nat.add_sub_cancel_left];exact i.h⟩
theorem lay_pre (X c:List Value) (j:Nat):∀(l:List Value) (c:List Value) (j:Nat),lay (X++c) (X.length+j) l=X++lay c j l
 | [],_,_=>rfl
 | u::l,c,j=>by
  simp only [lay]
  rw [List.set_append_right _ _ (by omega),Nat.add_sub_cancel_left,Nat.add_assoc,lay_pre X c j l]
instance layApp {X c l c':List Value} {j:Nat} [i:Lay c j l c']:Lay (X++c) (X.length+j) l (X++c'):=⟨by rw [lay_pre X c j,i.h.1],by have:=i.h.2;simp only [List.length_append];omega⟩
theorem lay_left:∀(v l r:List Value) (o:Nat),o+v.length≤l.length→lay (l++r) o v=lay l o v++r
 | [],_,_,_,_=>rfl
 | u::v,l,r,o,h=>by
  simp only [lay]
  simp only [List.length_cons]at h
  rw [List.set_append_left _ _ (by omega),lay_left v _ r _ (by simp;omega)]
instance layL {l r v l':List Value} {o:Nat} [i:Lay l o v l']:Lay (l++r) o v (l'++r):=⟨by rw [lay_left v l r o i.h.2,i.h.1],by have:=i.h.2;simp only [List.length_append];omega⟩
abbrev Arm:=Nat×List Item×Nat
@[reducible] def encA:Enc Arm 2:=⟨fun y=>[.pointer (some (ad y.1 0)),.int .u64 (y.2.2:Nat)],by omega,fun _=>rfl⟩
def tabs (l:List Arm):Chunk:=l.flatMap fun y=>tableC y.1 y.2.1
structure Ar where
 a:Option Addr
 n:Nat
 c:Nat
 l:List Arm
 ch:Chunk
 row:Row 513 2 a n c encA l ch
 fed:Int
 ok:∀y∈l,y.2.1.length≤60∧y.2.2<2 ^ 61
 small:l.length≤8
def Ar.m (x:Ar):Pats:=x.l.map fun y=>(y.2.1,y.2.2)
def armsC (b:Nat) (x:Ar):Chunk:=bk b 508 [.slice x.a x.n x.c,.int .i64 x.fed]++(x.ch++tabs x.l)
theorem tab_in {l:List Arm} {y:Arm} (hy:y∈l) (h:y.2.1.length≤60) (F:St):Tab (tabs l::F) y.1 y.2.1:=⟨by
 refine⟨(0,0),?_⟩
 simp only [List.flatten_cons,List.mem_append]
 exact .inl (List.mem_flatMap.2 ⟨y,hy,by simp [tableC,tabC,bk]⟩),h⟩
theorem tab_head {b:Nat} {l:List Item} (h:l.length≤60) (F:St):Tab (tableC b l::F) b l:=⟨by
 refine⟨(0,0),?_⟩
 simp [tableC,tabC,bk],h⟩
theorem tabs_app (l:List Arm) (y:Arm):tabs (l++[y])=tabs l++tableC y.1 y.2.1:=by simp [tabs]
theorem pCompile_in {s:List UInt8} {l:List Item} (h:pCompile s= .ok l):l.length≤60:=by
 unfold pCompile at h
 split at h
 ·cases h
 ·rename_i l' hg
  split at h
  ·cases h
  ·split at h
   ·cases h
   ·cases h;exact(gParse_in hg).2
theorem pCompile_err {s:List UInt8} {p:Nat} {e:Int} (h:pCompile s= .error (p,e)):e≠0:=by
 unfold pCompile at h
 split at h
 ·rename_i e' hg;cases h;exact gGo_err _ _ _ _ hg
 ·split at h
  ·cases h;decide
  ·split at h
   ·cases h;decide
   ·cases h
theorem start_lt {l:List Item} (h:l.length≤60):tStart l<2 ^ 61:=by
 have:=tClose_lt l 1;have:=p61 h;unfold tStart;omega
def pm (l:List Arm):Pats:=l.map fun y=>(y.2.1,y.2.2)
section
variable {cs:St} {K:Value→SP} {a:Option Addr} {n c:Nat} {ps:List ByteArray}
instance c386 [r:Rw 9 1 cs a n c encS ps]:Go1 (fn 386 [.slice a n c] K cs) (((∀s∈ps,s.size≤1000000000000)∧n<1000000000000)∧(∀i e,aNew (ps.map bl)= .error (i,e)→K (.tuple ⟨[.pointer none,.int .i64 (i:Nat),.int .i64 e]⟩) cs)∧
  ∀m,aNew (ps.map bl)= .ok m→∀b x,Ar.m x=m→K (.tuple ⟨[.pointer (some (ad b 0)),.int .i64 0,.int .i64 0]⟩) (armsC b x::cs)):=⟨fun h=>up0 (f386 (by
 obtain⟨⟨h1,hn⟩,he,hk⟩:=h
 unfold s386
 have hlen:=r.h.len
 refine go ⟨fun c0=> ?_,fun c0 b1=> ?_⟩
 ·simp only [gt_iff_lt,decide_eq_true_eq]at c0
  have g:(ps.map bl).length>8:=by rw [List.length_map];omega
  exact fin (he 0 4 (by simp only [aNew,g,if_true]))
 ·simp only [gt_iff_lt,decide_eq_false_iff_not]at c0
  have g:¬(ps.map bl).length>8:=by rw [List.length_map];omega
  simp only [aNew,g,if_false]at he hk
  refine lp (fun y:Nat×Option Addr×Nat×Chunk×List Arm=>[.int .i64 y.1]) (fun y=>bk b1 508 [.slice y.2.1 y.2.2.2.2.length y.2.2.1,.int .i64 0]::y.2.2.2.1::tabs y.2.2.2.2::cs)
   (fun y=>y.1≤n∧Row 513 2 y.2.1 y.2.2.2.2.length y.2.2.1 encA y.2.2.2.2 y.2.2.2.1∧y.2.2.2.2.length=y.1∧(∀z∈y.2.2.2.2,z.2.1.length≤60∧z.2.2<2 ^ 61)∧aGo ((ps.map bl).drop y.1) y.1 (pm y.2.2.2.2)=aGo (ps.map bl) 0 []) (fun y=>n-y.1)
   (0,none,0,[],[]) rfl (Imp.of_sub (l:=[]) (by simp [tabs])) ⟨Nat.zero_le _,⟨Sl.nil⟩,rfl,by simp,rfl⟩ ?_
  rintro⟨i,a',c',ch,l⟩ ⟨i1,i2,i3,i4,i5⟩
  dsimp only at *
  refine go ?_
  simp only [decide_eq_true_eq,decide_eq_false_iff_not,Int.toNat_natCast,id]
  refine⟨fun c1=> ?_,fun c1=> ?_⟩
  ·refine⟨by omega,fun s hs=>⟨h1 s (List.mem_of_getElem? hs),?_,?_⟩⟩
   ·have hi:i<ps.length:=by omega
    have hd:(ps.map bl).drop i=bl s::(ps.map bl).drop (i+1):=by
     rw [List.drop_eq_getElem_cons (by rw [List.length_map];exact hi),List.getElem_map]
     rw [List.getElem?_eq_getElem hi]at hs
     rw [Option.some.inj hs]
    rw [hd]at i5
    intro p e hp
    refine⟨fun c2=> ?_,fun c2=>absurd (by simpa using c2) (pCompile_err hp)⟩
    simp only [aGo,hp]at i5
    exact fin (he i e i5.symm)
   ·have hi:i<ps.length:=by omega
    have hd:(ps.map bl).drop i=bl s::(ps.map bl).drop (i+1):=by
     rw [List.drop_eq_getElem_cons (by rw [List.length_map];exact hi),List.getElem_map]
     rw [List.getElem?_eq_getElem hi]at hs
     rw [Option.some.inj hs]
    rw [hd]at i5
    intro q hq tb
    have hq60:=pCompile_in hq
    refine⟨fun c2=>(by simp at c2),fun _=> ?_⟩
    have ht:=fun X:St=>tab_head (b:=tb) hq60 X
    simp only [aGo,hq]at i5
    refine go ⟨by decide,fun rb=>⟨⟨by omega,by omega⟩,(tb,q,tStart q),rfl,fun a2 c2 ch2 r2=> ?_⟩⟩
    refine⟨(i+1,a2,c2,ch2,l++[(tb,q,tStart q)]),?_,?_,⟨by omega,?_,by simp [i3],fun z hz=> ?_,?_⟩,by omega⟩
    ·rw [w64_id (by omega)];simp
    ·simp only [tabs_app,List.length_append,List.length_singleton];exact drp
    ·simpa using r2
    ·rcases List.mem_append.1 hz with hz | hz
     ·exact i4 z hz
     ·simp at hz;subst hz;exact⟨hq60,start_lt hq60⟩
    ·simpa [pm]using i5
  ·have e:i=n:=by omega
   subst e
   have hd:(ps.map bl).drop i=[]:=List.drop_eq_nil_of_le (by rw [List.length_map];omega)
   rw [hd,aGo]at i5
   have hh:=hk _ i5.symm b1 ⟨a',l.length,c',l,ch,i2,0,i4,by omega⟩ rfl
   simp only [armsC]at hh
   exact fin hh))⟩
end
def feedA (k:Nat) (y:Arm):Arm:=(y.1,y.2.1,tSeek y.2.1 y.2.2 k)
def doneA (y:Arm):Bool:=tDone y.2.1 y.2.2
theorem tabs_feed (k:Nat) (l:List Arm):tabs (l.map (feedA k))=tabs l:=by simp [tabs,feedA,List.flatMap_map]
def foundV:Option Nat→Value
 | none=> .tuple ⟨[.int .i64 0,.bool false]⟩
 | some i=> .tuple ⟨[.int .i64 (i:Nat),.bool true]⟩
theorem pm_feed (k:Nat) (l:List Arm):pm (l.map (feedA k))=aFeed (pm l) k:=by simp [pm,aFeed,feedA]
theorem found_pm (l:List Arm):aFound (pm l)=l.findIdx? doneA:=by
 simp only [aFound,pm,List.findIdx?_map]
 rfl
section
variable {cs:St} {b:Nat} {x:Ar} {put:Chunk→St} {K:Value→SP}
instance c448 [o:Ob armsC cs b x put] {k:Nat}:Go1 (fn 448 [.pointer (some (ad b 0)),.int .u8 (k:Int)] K cs) (k<256∧∀x',Ar.m x'=aFeed x.m k→K (foundV (aFound (aFeed x.m k))) (put (armsC b x'))):=⟨fun h=>
 o.fn3 (bk b 508 [.slice x.a x.n x.c,.int .i64 x.fed]) x.ch (tabs x.l) rfl fun F=>f448 (by
 obtain⟨hk,h⟩:=h
 unfold s448
 have hlen:=x.row.len
 have hsm:=x.small
 refine go ?_
 refine lp (fun y:Nat×Chunk=>[.int .i64 ((((x.l.take y.1).map (feedA k)).findIdx? doneA).getD 0:Nat),.bool (((x.l.take y.1).map (feedA k)).findIdx? doneA).isSome,.int .i64 y.1])
  (fun y=>bk b 508 [.slice x.a x.n x.c,.int .i64 (w64 (x.fed+1))]::y.2::tabs x.l::F)
  (fun y=>y.1≤x.n∧Row 513 2 x.a x.n x.c encA ((x.l.take y.1).map (feedA k)++x.l.drop y.1) y.2) (fun y=>x.n-y.1) (0,x.ch) rfl drp ⟨Nat.zero_le _,by simpa using x.row⟩ ?_
 rintro⟨i,ch⟩ ⟨i1,r⟩
 dsimp only at *
 refine go ?_
 simp only [decide_eq_true_eq,decide_eq_false_iff_not]
 refine⟨fun c0=> ?_,fun c0=> ?_⟩
 ·have hi:i<x.l.length:=by omega
  have hll:i<((x.l.take i).map (feedA k)++x.l.drop i).length:=by simp;omega
  obtain⟨rb,o',X,Z,ha,ho,hch,hrow⟩:=r.split hll
  have hy:((x.l.take i).map (feedA k)++x.l.drop i)[i]=x.l[i]:=by
   rw [List.getElem_append_right (by simp;omega)]
   simp only [List.length_map,List.length_take,List.getElem_drop]
   congr 1
   omega
  rw [hy]at hch
  subst hch
  rw [ha]
  refine ix_at (by omega) (by omega) ?_ (slc_ix (T:=513) (sz:=2) (bytes:=16) inferInstance)
  rw [Int.toNat_natCast,ho]
  have hok:=x.ok x.l[i] (List.getElem_mem hi)
  have ht:=fun F:St=>tab_in (List.getElem_mem hi) hok.1 F
  have h61:(2:Nat) ^ 61<18446744073709551616:=by decide
  have hnx:(x.l.take (i+1)).map (feedA k)=(x.l.take i).map (feedA k)++[feedA k x.l[i]]:=by rw [List.take_succ_eq_append_getElem hi,List.map_append];rfl
  have hrow2:Row 513 2 x.a x.n x.c encA ((x.l.take (i+1)).map (feedA k)++x.l.drop (i+1)) (bk rb 513 (X++(encA.f (feedA k x.l[i])++Z))):=by
   have:=hrow (feedA k x.l[i])
   have e:((x.l.take i).map (feedA k)++x.l.drop i).set i (feedA k x.l[i])=(x.l.take (i+1)).map (feedA k)++x.l.drop (i+1):=by
    rw [hnx,List.set_append_right _ _ (by rw [List.length_map,List.length_take];omega)]
    have e1:i-((x.l.take i).map (feedA k)).length=0:=by rw [List.length_map,List.length_take];omega
    rw [e1,List.drop_eq_getElem_cons hi,List.set_cons_zero,List.append_assoc,List.singleton_append]
   rw [e]at this
   exact this
  rw [ha]at hrow2
  have hfi:((x.l.take (i+1)).map (feedA k)).findIdx? doneA=match ((x.l.take i).map (feedA k)).findIdx? doneA with
    | some j=>some j
    | none=>if tDone x.l[i].2.1 (tSeek x.l[i].2.1 x.l[i].2.2 k)=true then some i else none:=by
   have hl3:((x.l.take i).map (feedA k)).length=i:=by rw [List.length_map,List.length_take];omega
   rw [hnx,List.findIdx?_append,hl3]
   cases((x.l.take i).map (feedA k)).findIdx? doneA with
   | some j=>rfl
   | none=>
    rw [List.findIdx?_singleton]
    show Option.map (fun j=>j+i) (if tDone x.l[i].2.1 (tSeek x.l[i].2.1 x.l[i].2.2 k)=true then some 0 else none)=_
    split <;>simp
  have w1:w64 ((i:Int)+1)=((i+1:Nat):Int):=by rw [w64_id (by omega)];rfl
  have hsk:=tSeek_lt x.l[i].2.1 x.l[i].2.2 k
  have hp:=p61 hok.1
  rw [w1]
  refine go ⟨⟨by omega,hk⟩,fun c1=>⟨by omega,fun c2=> ?_,fun c2=> ?_⟩,fun c1=> ?_⟩
  all_goals refine⟨(i+1,bk rb 513 (X++(encA.f (feedA k x.l[i])++Z))),?_,Imp.refl _,⟨by omega,hrow2⟩,by simp only;omega⟩
  all_goals dsimp only
  all_goals rw [hfi]
  ·cases hf:((x.l.take i).map (feedA k)).findIdx? doneA with
   | some j=>rw [hf]at c1;simp at c1
   | none=>simp [c2]
  ·cases hf:((x.l.take i).map (feedA k)).findIdx? doneA with
   | some j=>rfl
   | none=>simp [c2]
  ·cases hf:((x.l.take i).map (feedA k)).findIdx? doneA with
   | some j=>rfl
   | none=>rw [hf]at c1;simp at c1
 ·have e:i=x.l.length:=by omega
  subst e
  rw [List.take_length,List.drop_length,List.append_nil]at r
  have hok:∀y∈x.l.map (feedA k),y.2.1.length≤60∧y.2.2<2 ^ 61:=by
   intro y hy
   obtain⟨z,hz,rfl⟩:=List.mem_map.1 hy
   have h1:=(x.ok z hz).1
   have h2:=tSeek_lt z.2.1 z.2.2 k
   have h3:=p61 h1
   exact⟨h1,by simp only [feedA];omega⟩
  have hh:=h ⟨x.a,x.n,x.c,x.l.map (feedA k),ch,r,w64 (x.fed+1),hok,by rw [List.length_map];exact hsm⟩ (pm_feed k x.l)
  have hfo:aFound (aFeed x.m k)=(x.l.map (feedA k)).findIdx? doneA:=by
   show aFound (aFeed (pm x.l) k)=_
   rw [←pm_feed,found_pm]
  rw [hfo]at hh
  rw [List.take_length]
  simp only [armsC,tabs_feed]at hh
  refine⟨_,_,_,Imp.refl _,?_⟩
  refine keq hh ?_
  cases(x.l.map (feedA k)).findIdx? doneA <;>rfl)⟩
end
def freshA (y:Arm):Arm:=(y.1,y.2.1,tStart y.2.1)
theorem tabs_fresh (l:List Arm):tabs (l.map freshA)=tabs l:=by simp [tabs,freshA,List.flatMap_map]
section
variable {cs:St} {K:Value→SP}
theorem c464 {b n c:Nat} {a:Option Addr} {fed:Int} {l:List Arm} [q:RdB cs b 508 [.slice a n c,.int .i64 fed]] [r:Rw 513 2 cs a n c encA l] (ht:∀y∈l,Tab cs y.1 y.2.1) (hsm:l.length≤8)
  (h:∀b' a' c' ch',Row 513 2 a' n c' encA (l.map freshA) ch'→K (.pointer (some (ad b' 0))) (bk b' 508 [.slice a' n c',.int .i64 0]::ch'::cs)):fn 464 [.pointer (some (ad b 0))] K cs:=up0 (f464 (by
 unfold s464
 have hlen:=r.h.len
 refine go fun b1=> ?_
 refine lp (fun y:Nat×Option Addr×Nat×Chunk=>[.int .i64 y.1]) (fun y=>bk b1 508 [.slice y.2.1 y.1 y.2.2.1,.int .i64 0]::y.2.2.2::cs)
  (fun y=>y.1≤n∧Row 513 2 y.2.1 y.1 y.2.2.1 encA ((l.take y.1).map freshA) y.2.2.2) (fun y=>n-y.1) (0,none,0,[]) rfl drp ⟨Nat.zero_le _,⟨Sl.nil⟩⟩ ?_
 rintro⟨i,a',c',ch⟩ ⟨i1,r1⟩
 dsimp only at *
 refine go ?_
 simp only [decide_eq_true_eq,decide_eq_false_iff_not,Int.toNat_natCast]
 refine⟨fun c0=>⟨by omega,fun x hx b2=> ?_⟩,fun c0=> ?_⟩
 ·have hi:i<l.length:=by omega
  have htx:=ht x (List.mem_of_getElem? hx)
  have w1:w64 ((i:Int)+1)=((i+1:Nat):Int):=by rw [w64_id (by omega)];rfl
  rw [w1]
  refine go ⟨by decide,fun b3=>⟨⟨by omega,by omega⟩,freshA x,rfl,fun a2 c2 ch2 r2=>⟨(i+1,a2,c2,ch2),rfl,drp,⟨by omega,?_⟩,by simp only;omega⟩⟩⟩
  have e:(l.take (i+1)).map freshA=(l.take i).map freshA++[freshA x]:=by
   rw [List.take_succ_eq_append_getElem hi,List.map_append]
   rw [List.getElem?_eq_getElem hi]at hx
   rw [Option.some.inj hx];rfl
  rw [e]
  exact r2
 ·have e:i=n:=by omega
  subst e
  rw [hlen,List.take_length]at r1
  rw [←hlen]at r1
  exact fin (h b1 a' c' ch r1)))
end
section
variable {cs:St} {b:Nat} {x:Ar} {put:Chunk→St} {K:Value→SP}
instance c449 [o:Ob armsC cs b x put]:Go1 (fn 449 [.pointer (some (ad b 0))] K cs) (∀x',Ar.m x'=aFresh x.m→K undef (put (armsC b x'))):=⟨fun h=>
 o.fn3 (bk b 508 [.slice x.a x.n x.c,.int .i64 x.fed]) x.ch (tabs x.l) rfl fun F=>f449 (by
 unfold s449
 have hr:=x.row
 refine c464 (l:=x.l) (a:=x.a) (n:=x.n) (c:=x.c) (fed:=x.fed) (fun y hy=> ?_) x.small fun b' a' c' ch' r'=> ?_
 ·have:=tab_in hy (x.ok y hy).1 F
  infer_instance
 ·refine go ?_
  have hh:=h ⟨a',x.n,c',x.l.map freshA,ch',r',0,fun y hy=> ?_,by rw [List.length_map];exact x.small⟩ ?_
  ·simp only [armsC,tabs_fresh]at hh
   exact⟨_,_,_,drp,hh⟩
  ·obtain⟨z,hz,rfl⟩:=List.mem_map.1 hy
   have h1:=(x.ok z hz).1
   exact⟨h1,start_lt h1⟩
  ·simp [Ar.m,aFresh,freshA])⟩
end
end Go.Proofs.YtbjlfobjngogkaaGreatDoor
namespace Go.Proofs.YtbjlfobjngogkaaGreatDoor
open Go
variable {K:Value→SP} {cs:St}
@[reducible] def s102 (x0:Addr) (K:Value→SP):SP:=
 fn 174 [.pointer (some x0)]<|fun v0=>unB v0 fun b1=>br (!b1) (K (.int .i64 0))<|ldB 4 (x0.add 19) fun b3=>br (b3) (K (.int .i64 0))<|ldP 307 (x0.add 16) fun p5=>fn 175 [.pointer p5]<|fun v6=>unI .i64 v6 fun n7=>K (.int .i64 n7)
theorem f102 {x0:Addr} (h:s102 x0 K cs):fn 102 [.pointer (some x0)] K cs:=fO (an:=⟨[],[]⟩) Tryz.func102 h
@[reducible] def s104 (x0:Addr) (K:Value→SP):SP:=
 ldP 309 (x0.add 18) fun p1=>fn 176 [.pointer p1]<|fun v2=>unS v2 fun s3=>K (.string s3)
theorem f104 {x0:Addr} (h:s104 x0 K cs):fn 104 [.pointer (some x0)] K cs:=fO (an:=⟨[],[]⟩) Tryz.func104 h
@[reducible] def s149 (x0:List Value) (x1:List Value) (x2:Int) (K:Value→SP):SP:=
 box 23 (.agg (.mk x0)) fun a1=>box 45 (.agg (.mk x1)) fun a3=>ldA 23 (a1) fun a5=>fn 68 [.agg (.mk a5)]<|fun v6=>unB v6 fun b7=>br (!b7) (K (.tuple (Array.mk [.pointer none,.int .i64 1])))<|ldA 45 (a3) fun a9=>fn 118 [.agg (.mk a9)]<|fun v10=>unB v10 fun b11=>br (!b11) (K (.tuple (Array.mk [.pointer none,.int .i64 2])))<|ldA 23 (a1) fun a13=>ldA 45 (a3) fun a15=>fn 82 [.agg (.mk a15)]<|fun v16=>unA v16 fun a17=>stb (Instr.loadAt 23 (.pointer (some a1))) (.agg (.mk a13))<|fn 228 [.int .i64 x2]<|fun v18=>unI .i64 v18 fun n19=>stb (Instr.loadAt 23 (.pointer (some a1))) (.agg (.mk a13))<|qy (Instr.build 311 (Array.mk [(0,.agg (.mk a13)),(1,.agg (.mk a17)),(10,.int .i64 n19)]))<|fun v20=>unA v20 fun a21=>box 311 (.agg (.mk a21)) fun a23=>ldI .i64 2 (a23.add 20) fun n25=>ldI .i64 2 (a3.add 1) fun n27=>fn 229 [.int .i64 n25,.int .i64 n27]<|fun v28=>unA v28 fun a29=>st 306 (a23.add 13) (.agg (.mk a29))<|ldI .i64 3 (a1.add 1) fun n32=>ldI .i64 3 (a1.add 2) fun n34=>ldI .i64 3 (a1.add 3) fun n36=>fn 230 [.int .i64 n32]<|fun v37=>unP v37 fun p38=>stb (Instr.loadAt 3 (.pointer (some (a1.add 3)))) (.int .i64 n36)<|stb (Instr.loadAt 3 (.pointer (some (a1.add 2)))) (.int .i64 n34)<|fn 231 [.int .i64 n34]<|fun v39=>unP v39 fun p40=>stb (Instr.loadAt 3 (.pointer (some (a1.add 3)))) (.int .i64 n36)<|fn 232 [.int .i64 n36]<|fun v41=>unP v41 fun p42=>st 307 (a23.add 16) (.pointer p38)<|st 308 (a23.add 17) (.pointer p40)<|st 309 (a23.add 18) (.pointer p42)<|fn 233 [.pointer (some a23),.int .i64 0]<|fun v46=>unT v46 fun _=>K (.tuple (Array.mk [.pointer (some a23),.int .i64 0]))
theorem f149 {x0 x1:List Value} {x2:Int} (h:s149 x0 x1 x2 K cs):fn 149 [.agg (.mk x0),.agg (.mk x1),.int .i64 x2] K cs:=fO (an:=⟨[],[]⟩) Tryz.func149 h
@[reducible] def s161 (x0:Addr) (x1:Int) (K:Value→SP):SP:=
 fn 174 [.pointer (some x0)]<|fun v0=>unB v0 fun b1=>br (b1) (ldI .i64 2 (x0.add 20) fun n3=>fn 246 [.pointer (some x0),.int .i64 (if n3>x1 then n3 else x1)]<|fun v4=>unB v4 fun b5=>K (.bool b5))<|K (.bool false)
theorem f161 {x0:Addr} {x1:Int} (h:s161 x0 x1 K cs):fn 161 [.pointer (some x0),.int .i64 x1] K cs:=fO (an:=⟨[],[]⟩) Tryz.func161 h
@[reducible] def s163 (x0:Addr) (K:Value→SP):SP:=
 fn 174 [.pointer (some x0)]<|fun v0=>unB v0 fun b1=>br (!b1) (K (.int .i64 0))<|ldP 307 (x0.add 16) fun p3=>fn 248 [.pointer p3]<|fun v4=>unI .i64 v4 fun n5=>fn 249 [.pointer (some x0)]<|fun v6=>unA v6 fun a7=>new 97 fun a9=>st 97 (a9) (.agg (.mk a7))<|Jn (fun l11=>unI .i64 (l11.headD undef) fun i13=>ldA 23 (x0.add 0) fun a15=>ldI .i64 3 (a9.add 0) fun n17=>ldP 308 (x0.add 17) fun p19=>fn 252 [.pointer p19]<|fun v20=>unI .i64 v20 fun n21=>stb (Instr.loadAt 3 (.pointer (some (a9.add 0)))) (.int .i64 n17)<|stb (Instr.loadAt 23 (.pointer (some (x0.add 0)))) (.agg (.mk a15))<|fn 251 [.agg (.mk a15),.int .i64 n17,.int .i64 n21,.int .i64 i13]<|fun v22=>unI .i64 v22 fun n23=>K (.int .i64 n23))<|fun j12=>ldI .i64 3 (a9.add 0) fun n25=>br (n25 == 1) (ldP 309 (x0.add 18) fun p27=>fn 250 [.pointer p27]<|fun v28=>unI .i64 v28 fun n29=>j12 [.int .i64 n29])<|j12 [.int .i64 n5]
theorem f163 {x0:Addr} (h:s163 x0 K cs):fn 163 [.pointer (some x0)] K cs:=fO (an:=⟨[],[(7,[(3,.int .i64)])]⟩) Tryz.func163 h
@[reducible] def s167 (x0:Addr) (K:Value→SP):SP:=
 fn 174 [.pointer (some x0)]<|fun v0=>unB v0 fun b1=>br (!b1) (K (.int .i64 9223372036854775807))<|ldA 306 (x0.add 13) fun a3=>fn 263 [.agg (.mk a3)]<|fun v4=>unI .i64 v4 fun n5=>K (.int .i64 n5)
theorem f167 {x0:Addr} (h:s167 x0 K cs):fn 167 [.pointer (some x0)] K cs:=fO (an:=⟨[],[]⟩) Tryz.func167 h
@[reducible] def s174 (x0:Addr) (K:Value→SP):SP:=
 ldI .i64 3 (x0.add 11) fun n1=>K (.bool (n1 == 0))
theorem f174 {x0:Addr} (h:s174 x0 K cs):fn 174 [.pointer (some x0)] K cs:=fO (an:=⟨[],[]⟩) Tryz.func174 h
@[reducible] def s233 (x0:Addr) (x1:Int) (K:Value→SP):SP:=
 st 3 (x0.add 10) (.int .i64 x1)<|ldA 306 (x0.add 13) fun a2=>fn 323 [.agg (.mk a2)]<|fun v3=>unA v3 fun a4=>st 306 (x0.add 13) (.agg (.mk a4))<|fn 249 [.pointer (some x0)]<|fun v6=>unA v6 fun a7=>new 97 fun a9=>st 97 (a9) (.agg (.mk a7))<|ldI .i64 3 (a9.add 0) fun n12=>br (n12 == 1) (ldP 309 (x0.add 18) fun p14=>ldS 9 (a9.add 1) fun s16=>fn 324 [.pointer p14,.string s16]<|fun v17=>unT v17 fun _=>K (undef))<|br (n12 == 2) (ldL 95 (a9.add 4) fun a20 n21 c22=>Lp (fun self23 l24=>unL (l24.headD undef) fun a25 n26 c27=>unI .i64 (l24.tail.headD undef) fun i28=>br (decide (i28<(n21:Int))) (ix 95 (.slice a20 n21 c22) (i28) fun a30=>ldA 146 (a30) fun a32=>new 146 fun a34=>st 146 (a34) (.agg (.mk a32))<|ldS 9 (a34.add 0) fun s37=>sm (Instr.buildSlice 144 1 (Array.mk [(0,.string s37)]))<|fun v38=>unL v38 fun a39 n40 c41=>sm (Builtin.append_ (Array.mk [144,144]) 144 (Array.mk [.slice a25 n26 c27,.slice a39 n40 c41]))<|fun v42=>unL v42 fun a43 n44 c45=>self23 [.slice a43 n44 c45,.int .i64 (w64 (i28+1))])<|ldP 308 (x0.add 17) fun p47=>fn 325 [.pointer p47,.slice a25 n26 c27]<|fun v48=>unI .i64 v48 fun _=>ldA 306 (x0.add 13) fun a51=>ldI .i64 2 (x0.add 20) fun n53=>ldI .i64 2 (a9.add 2) fun n55=>fn 326 [.agg (.mk a51),.int .i64 n53,.int .i64 n55]<|fun v56=>unA v56 fun a57=>st 306 (x0.add 13) (.agg (.mk a57))<|K (undef)) [.slice none 0 0,.int .i64 0])<|br (n12 == 4) (ldA 306 (x0.add 13) fun a60=>ldI .i64 2 (x0.add 20) fun n62=>ldI .i64 2 (a9.add 2) fun n64=>fn 326 [.agg (.mk a60),.int .i64 n62,.int .i64 n64]<|fun v65=>unA v65 fun a66=>st 306 (x0.add 13) (.agg (.mk a66))<|K (undef))<|K (undef)
theorem f233 {x0:Addr} {x1:Int} (h:s233 x0 x1 K cs):fn 233 [.pointer (some x0),.int .i64 x1] K cs:=fO (an:=⟨[(9,[(5,.sl),(38,.int .i64)])],[]⟩) Tryz.func233 h
@[reducible] def s236 (x0:Addr) (x1:Int) (K:Value→SP):SP:=
 fn 174 [.pointer (some x0)]<|fun v0=>unB v0 fun b1=>br (b1) (ldA 306 (x0.add 13) fun a3=>fn 327 [.agg (.mk a3),.int .i64 x1]<|fun v4=>unA v4 fun a5=>st 306 (x0.add 13) (.agg (.mk a5))<|K (undef))<|K (undef)
theorem f236 {x0:Addr} {x1:Int} (h:s236 x0 x1 K cs):fn 236 [.pointer (some x0),.int .i64 x1] K cs:=fO (an:=⟨[],[]⟩) Tryz.func236 h
@[reducible] def s237 (x0:Addr) (x1:ByteArray) (K:Value→SP):SP:=
 fn 174 [.pointer (some x0)]<|fun v0=>unB v0 fun b1=>br (!b1) (K (.int .i64 0))<|ldB 4 (x0.add 19) fun b3=>br (b3) (K (.int .i64 0))<|ldP 307 (x0.add 16) fun p5=>fn 328 [.pointer p5,.string x1]<|fun v6=>unI .i64 v6 fun n7=>K (.int .i64 n7)
theorem f237 {x0:Addr} {x1:ByteArray} (h:s237 x0 x1 K cs):fn 237 [.pointer (some x0),.string x1] K cs:=fO (an:=⟨[],[]⟩) Tryz.func237 h
@[reducible] def s239 (x0:Addr) (K:Value→SP):SP:=
 fn 174 [.pointer (some x0)]<|fun v0=>unB v0 fun b1=>br (!b1) (K (.bool false))<|ldB 4 (x0.add 19) fun b3=>br (b3) (K (.bool false))<|st 4 (x0.add 19) (.bool true)<|K (.bool true)
theorem f239 {x0:Addr} (h:s239 x0 K cs):fn 239 [.pointer (some x0)] K cs:=fO (an:=⟨[],[]⟩) Tryz.func239 h
@[reducible] def s240 (x0:Addr) (x1:Int) (K:Value→SP):SP:=
 fn 174 [.pointer (some x0)]<|fun v0=>unB v0 fun b1=>br (!b1) (K (.string (bs [])))<|ldP 309 (x0.add 18) fun p3=>fn 329 [.pointer p3,.int .i64 x1]<|fun v4=>unS v4 fun s5=>K (.string s5)
theorem f240 {x0:Addr} {x1:Int} (h:s240 x0 x1 K cs):fn 240 [.pointer (some x0),.int .i64 x1] K cs:=fO (an:=⟨[],[]⟩) Tryz.func240 h
@[reducible] def s246 (x0:Addr) (x1:Int) (K:Value→SP):SP:=
 ldA 306 (x0.add 13) fun a1=>fn 333 [.agg (.mk a1),.int .i64 x1]<|fun v2=>unT v2 fun t3=>ex (0<t3.length)<|unI .i64 (t3.getD 0 undef) fun _=>ex (1<t3.length)<|unB (t3.getD 1 undef) fun b5=>br (b5) (K (.bool true))<|fn 249 [.pointer (some x0)]<|fun v6=>unA v6 fun a7=>qy (Instr.field 97 (.agg (.mk a7)) 0)<|fun v8=>unI .i64 v8 fun n9=>br (n9 == 1) (ldP 309 (x0.add 18) fun p11=>fn 334 [.pointer p11]<|fun v12=>unI .i64 v12 fun n13=>K (.bool (n13 == 0)))<|br (n9 == 2) (ldP 308 (x0.add 17) fun p15=>fn 252 [.pointer p15]<|fun v16=>unI .i64 v16 fun n17=>br (decide (n17>0)) (K (.bool true))<|ldP 307 (x0.add 16) fun p19=>fn 248 [.pointer p19]<|fun v20=>unI .i64 v20 fun n21=>br (decide (n21>0)) (K (.bool true))<|ldB 4 (x0.add 19) fun b23=>br (b23) (K (.bool true))<|ldA 306 (x0.add 13) fun a25=>fn 335 [.agg (.mk a25),.int .i64 x1]<|fun v26=>unB v26 fun b27=>K (.bool b27))<|br (n9 == 4) (ldA 306 (x0.add 13) fun a29=>fn 335 [.agg (.mk a29),.int .i64 x1]<|fun v30=>unB v30 fun b31=>K (.bool b31))<|K (.bool true)
theorem f246 {x0:Addr} {x1:Int} (h:s246 x0 x1 K cs):fn 246 [.pointer (some x0),.int .i64 x1] K cs:=fO (an:=⟨[],[]⟩) Tryz.func246 h
@[reducible] def s249 (x0:Addr) (K:Value→SP):SP:=
 new 97 fun a1=>ldI .i64 3 (x0.add 10) fun n3=>ldL 43 ((x0.add 6).add 3) fun _ n6 _=>br (decide (n3≥(n6:Int))) (st 97 (a1) (.agg (.mk [.int .i64 0,.string (bs []),.int .i64 0,.int .i64 0,.slice none 0 0,.int .i64 0,.int .i64 0]))<|qy (loadVar 97 a1)<|fun v9=>unA v9 fun a10=>K (.agg (.mk a10)))<|ldL 43 ((x0.add 6).add 3) fun a12 n13 c14=>ldI .i64 3 (x0.add 10) fun n16=>ix 43 (.slice a12 n13 c14) (n16) fun a18=>ldA 97 (a18) fun a20=>st 97 (a1) (.agg (.mk a20))<|qy (loadVar 97 a1)<|fun v22=>unA v22 fun a23=>K (.agg (.mk a23))
theorem f249 {x0:Addr} (h:s249 x0 K cs):fn 249 [.pointer (some x0)] K cs:=fO (an:=⟨[],[]⟩) Tryz.func249 h
@[reducible] def s253 (x0:Addr) (x1:Int) (K:Value→SP):SP:=
 new 99 fun a1=>fn 161 [.pointer (some x0),.int .i64 x1]<|fun v2=>unB v2 fun b3=>br (!b3) (st 99 (a1) (.agg (.mk [.int .i64 0,.int .i64 0,.int .i64 0,.int .i64 0,.int .i64 0,.int .i64 0]))<|qy (loadVar 99 a1)<|fun v5=>unA v5 fun a6=>K (.tuple (Array.mk [.agg (.mk a6),.bool false])))<|ldI .i64 2 (x0.add 20) fun n8=>st 2 (x0.add 20) (.int .i64 (if x1>n8 then x1 else n8))<|Jn (fun l10=>unQ (l10.headD undef) fun q12=>ldI .i64 3 (x0.add 11) fun n14=>st 3 (q12.add 5) (.int .i64 n14)<|ldA 99 (q12) fun a17=>st 99 (a1) (.agg (.mk a17))<|qy (loadVar 99 a1)<|fun v19=>unA v19 fun a20=>K (.tuple (Array.mk [.agg (.mk a20),.bool true])))<|fun j11=>ldI .i64 2 (x0.add 20) fun n22=>ldI .i64 3 (x0.add 10) fun n24=>an (fn 337 [.pointer (some x0),.agg (.mk [.int .i64 n22,.int .i64 n24,.int .i64 0,.int .i64 0,.int .i64 0,.int .i64 0])]<|fun v25=>unA v25 fun a26=>new 99 fun a28=>st 99 (a28) (.agg (.mk a26))<|j11 [.pointer (some a28)])<|new 99 fun a31=>stb (Instr.loadAt 3 (.pointer (some (x0.add 10)))) (.int .i64 n24)<|stb (Instr.loadAt 2 (.pointer (some (x0.add 20)))) (.int .i64 n22)<|fn 337 [.pointer (some x0),.agg (.mk [.int .i64 n22,.int .i64 n24,.int .i64 0,.int .i64 0,.int .i64 0,.int .i64 0])]<|fun v32=>unA v32 fun a33=>st 99 (a31) (.agg (.mk a33))<|j11 [.pointer (some a31)]
theorem f253 {x0:Addr} {x1:Int} (h:s253 x0 x1 K cs):fn 253 [.pointer (some x0),.int .i64 x1] K cs:=fO (an:=⟨[],[(5,[(6,.adr)])]⟩) Tryz.func253 h
@[reducible] def s254 (x0:Addr) (K:Value→SP):SP:=
 ldI .i64 3 (x0.add 11) fun n1=>K (.int .i64 n1)
theorem f254 {x0:Addr} (h:s254 x0 K cs):fn 254 [.pointer (some x0)] K cs:=fO (an:=⟨[],[]⟩) Tryz.func254 h
@[reducible] def s337 (x0:Addr) (x1:List Value) (K:Value→SP):SP:=
 box 99 (.agg (.mk x1)) fun a1=>new 99 fun a3=>ldA 306 (x0.add 13) fun a5=>ldI .i64 2 (x0.add 20) fun n7=>fn 333 [.agg (.mk a5),.int .i64 n7]<|fun v8=>unT v8 fun t9=>ex (0<t9.length)<|unI .i64 (t9.getD 0 undef) fun i10=>ex (1<t9.length)<|unB (t9.getD 1 undef) fun b11=>br (b11) (st 3 (a1.add 2) (.int .i64 14)<|Jn (fun _=>fn 389 [.pointer (some x0),.int .i64 i10]<|fun v15=>unT v15 fun _=>ldA 99 (a1) fun a18=>st 99 (a3) (.agg (.mk a18))<|qy (loadVar 99 a3)<|fun v20=>unA v20 fun a21=>K (.agg (.mk a21)))<|fun j14=>br (i10 == 3) (st 3 (a1.add 2) (.int .i64 12)<|j14 [])<|j14 [])<|fn 249 [.pointer (some x0)]<|fun v23=>unA v23 fun a24=>new 97 fun a26=>st 97 (a26) (.agg (.mk a24))<|ldI .i64 3 (a26.add 0) fun n29=>br (n29 == 1) (ldA 99 (a1) fun a31=>ldA 97 (a26) fun a33=>fn 390 [.pointer (some x0),.agg (.mk a31),.agg (.mk a33)]<|fun v34=>unA v34 fun a35=>st 99 (a3) (.agg (.mk a35))<|qy (loadVar 99 a3)<|fun v37=>unA v37 fun a38=>K (.agg (.mk a38)))<|br (n29 == 2) (ldA 99 (a1) fun a40=>ldA 97 (a26) fun a42=>fn 391 [.pointer (some x0),.agg (.mk a40),.agg (.mk a42)]<|fun v43=>unA v43 fun a44=>st 99 (a3) (.agg (.mk a44))<|qy (loadVar 99 a3)<|fun v46=>unA v46 fun a47=>K (.agg (.mk a47)))<|br (n29 == 3) (st 3 (a1.add 2) (.int .i64 7)<|ldA 99 (a1) fun a50=>ldI .i64 3 (a26.add 3) fun n52=>fn 392 [.pointer (some x0),.agg (.mk a50),.int .i64 n52]<|fun v53=>unA v53 fun a54=>st 99 (a3) (.agg (.mk a54))<|qy (loadVar 99 a3)<|fun v56=>unA v56 fun a57=>K (.agg (.mk a57)))<|br (n29 == 4) (st 3 (a1.add 2) (.int .i64 8)<|ldI .i64 3 (x0.add 10) fun n60=>fn 233 [.pointer (some x0),.int .i64 (w64 (n60+1))]<|fun v61=>unT v61 fun _=>ldA 99 (a1) fun a64=>st 99 (a3) (.agg (.mk a64))<|qy (loadVar 99 a3)<|fun v66=>unA v66 fun a67=>K (.agg (.mk a67)))<|br (n29 == 6) (st 3 (a1.add 2) (.int .i64 10)<|fn 389 [.pointer (some x0),.int .i64 2]<|fun v69=>unT v69 fun _=>ldA 99 (a1) fun a72=>st 99 (a3) (.agg (.mk a72))<|qy (loadVar 99 a3)<|fun v74=>unA v74 fun a75=>K (.agg (.mk a75)))<|st 3 (a1.add 2) (.int .i64 9)<|fn 389 [.pointer (some x0),.int .i64 1]<|fun v77=>unT v77 fun _=>ldA 99 (a1) fun a80=>st 99 (a3) (.agg (.mk a80))<|qy (loadVar 99 a3)<|fun v82=>unA v82 fun a83=>K (.agg (.mk a83))
theorem f337 {x0:Addr} {x1:List Value} (h:s337 x0 x1 K cs):fn 337 [.pointer (some x0),.agg (.mk x1)] K cs:=fO (an:=⟨[],[(6,[])]⟩) Tryz.func337 h
@[reducible] def s389 (x0:Addr) (x1:Int) (K:Value→SP):SP:=
 st 3 (x0.add 11) (.int .i64 x1)<|ldI .i64 3 ((x0.add 0).add 1) fun n2=>ldI .i64 3 ((x0.add 0).add 2) fun n4=>ldI .i64 3 ((x0.add 0).add 3) fun n6=>fn 230 [.int .i64 n2]<|fun v7=>unP v7 fun p8=>stb (Instr.loadAt 3 (.pointer (some ((x0.add 0).add 3)))) (.int .i64 n6)<|stb (Instr.loadAt 3 (.pointer (some ((x0.add 0).add 2)))) (.int .i64 n4)<|fn 231 [.int .i64 n4]<|fun v9=>unP v9 fun p10=>stb (Instr.loadAt 3 (.pointer (some ((x0.add 0).add 3)))) (.int .i64 n6)<|fn 232 [.int .i64 n6]<|fun v11=>unP v11 fun p12=>st 307 (x0.add 16) (.pointer p8)<|st 308 (x0.add 17) (.pointer p10)<|st 309 (x0.add 18) (.pointer p12)<|K (undef)
theorem f389 {x0:Addr} {x1:Int} (h:s389 x0 x1 K cs):fn 389 [.pointer (some x0),.int .i64 x1] K cs:=fO (an:=⟨[],[]⟩) Tryz.func389 h
@[reducible] def s390 (x0:Addr) (x1:List Value) (x2:List Value) (K:Value→SP):SP:=
 box 99 (.agg (.mk x1)) fun a1=>box 97 (.agg (.mk x2)) fun a3=>new 99 fun a5=>ldP 309 (x0.add 18) fun p7=>fn 250 [.pointer p7]<|fun v8=>unI .i64 v8 fun n9=>br (decide (n9>0)) (ldP 309 (x0.add 18) fun p11=>fn 417 [.pointer p11]<|fun v12=>unI .i64 v12 fun n13=>st 3 (a1.add 2) (.int .i64 5)<|st 3 (a1.add 4) (.int .i64 n13)<|ldA 99 (a1) fun a17=>st 99 (a5) (.agg (.mk a17))<|qy (loadVar 99 a5)<|fun v19=>unA v19 fun a20=>K (.agg (.mk a20)))<|ldS 9 (a3.add 1) fun s22=>st 3 (a1.add 2) (.int .i64 6)<|stb (Instr.loadAt 9 (.pointer (some (a3.add 1)))) (.string s22)<|st 3 (a1.add 4) (.int .i64 (s22.size:Int))<|ldI .i64 3 (x0.add 10) fun n26=>fn 233 [.pointer (some x0),.int .i64 (w64 (n26+1))]<|fun v27=>unT v27 fun _=>ldA 99 (a1) fun a30=>st 99 (a5) (.agg (.mk a30))<|qy (loadVar 99 a5)<|fun v32=>unA v32 fun a33=>K (.agg (.mk a33))
theorem f390 {x0:Addr} {x1 x2:List Value} (h:s390 x0 x1 x2 K cs):fn 390 [.pointer (some x0),.agg (.mk x1),.agg (.mk x2)] K cs:=fO (an:=⟨[],[]⟩) Tryz.func390 h
@[reducible] def s391 (x0:Addr) (x1:List Value) (x2:List Value) (K:Value→SP):SP:=
 box 99 (.agg (.mk x1)) fun a1=>box 97 (.agg (.mk x2)) fun a3=>new 99 fun a5=>Jn (fun l6=>unQ (l6.headD undef) fun q8=>ldI .i64 3 (q8.add 4) fun n10=>st 3 (a1.add 4) (.int .i64 n10)<|ldB 4 (q8.add 0) fun b13=>br (b13) (ldI .i64 3 (q8.add 2) fun n15=>ldI .i64 3 (q8.add 3) fun n17=>st 3 (a1.add 2) (.int .i64 2)<|stb (Instr.loadAt 3 (.pointer (some (q8.add 3)))) (.int .i64 n17)<|stb (Instr.loadAt 3 (.pointer (some (q8.add 2)))) (.int .i64 n15)<|st 3 (a1.add 3) (.int .i64 n15)<|stb (Instr.loadAt 3 (.pointer (some (q8.add 3)))) (.int .i64 n17)<|st 3 (a1.add 4) (.int .i64 n17)<|ldA 99 (a1) fun a22=>ldL 95 (a3.add 4) fun a24 n25 c26=>ldI .i64 3 (q8.add 2) fun n28=>ix 95 (.slice a24 n25 c26) (n28) fun a30=>ldI .i64 3 (a30.add 1) fun n32=>fn 392 [.pointer (some x0),.agg (.mk a22),.int .i64 n32]<|fun v33=>unA v33 fun a34=>st 99 (a5) (.agg (.mk a34))<|qy (loadVar 99 a5)<|fun v36=>unA v36 fun a37=>K (.agg (.mk a37)))<|ldB 4 (q8.add 1) fun b39=>br (b39) (st 3 (a1.add 2) (.int .i64 13)<|fn 389 [.pointer (some x0),.int .i64 4]<|fun v41=>unT v41 fun _=>ldA 99 (a1) fun a44=>st 99 (a5) (.agg (.mk a44))<|qy (loadVar 99 a5)<|fun v46=>unA v46 fun a47=>K (.agg (.mk a47)))<|ldB 4 (x0.add 19) fun b49=>br (b49) (st 3 (a1.add 2) (.int .i64 4)<|ldA 99 (a1) fun a52=>ldI .i64 3 (a3.add 6) fun n54=>fn 392 [.pointer (some x0),.agg (.mk a52),.int .i64 n54]<|fun v55=>unA v55 fun a56=>st 99 (a5) (.agg (.mk a56))<|qy (loadVar 99 a5)<|fun v58=>unA v58 fun a59=>K (.agg (.mk a59)))<|ldA 306 (x0.add 13) fun a61=>ldI .i64 2 (x0.add 20) fun n63=>fn 335 [.agg (.mk a61),.int .i64 n63]<|fun v64=>unB v64 fun b65=>br (b65) (st 3 (a1.add 2) (.int .i64 3)<|ldA 99 (a1) fun a68=>ldI .i64 3 (a3.add 5) fun n70=>fn 392 [.pointer (some x0),.agg (.mk a68),.int .i64 n70]<|fun v71=>unA v71 fun a72=>st 99 (a5) (.agg (.mk a72))<|qy (loadVar 99 a5)<|fun v74=>unA v74 fun a75=>K (.agg (.mk a75)))<|st 3 (a1.add 2) (.int .i64 1)<|ldA 99 (a1) fun a78=>st 99 (a5) (.agg (.mk a78))<|qy (loadVar 99 a5)<|fun v80=>unA v80 fun a81=>K (.agg (.mk a81)))<|fun j7=>ldP 308 (x0.add 17) fun p83=>ldP 307 (x0.add 16) fun p85=>an (fn 418 [.pointer p83,.pointer p85]<|fun v86=>unA v86 fun a87=>new 514 fun a89=>st 514 (a89) (.agg (.mk a87))<|j7 [.pointer (some a89)])<|new 514 fun a92=>stb (Instr.loadAt 307 (.pointer (some (x0.add 16)))) (.pointer p85)<|stb (Instr.loadAt 308 (.pointer (some (x0.add 17)))) (.pointer p83)<|fn 418 [.pointer p83,.pointer p85]<|fun v93=>unA v93 fun a94=>st 514 (a92) (.agg (.mk a94))<|j7 [.pointer (some a92)]
theorem f391 {x0:Addr} {x1 x2:List Value} (h:s391 x0 x1 x2 K cs):fn 391 [.pointer (some x0),.agg (.mk x1),.agg (.mk x2)] K cs:=fO (an:=⟨[],[(2,[(7,.adr)])]⟩) Tryz.func391 h
@[reducible] def s392 (x0:Addr) (x1:List Value) (x2:Int) (K:Value→SP):SP:=
 box 99 (.agg (.mk x1)) fun a1=>new 99 fun a3=>br (decide (x2<0)) (fn 389 [.pointer (some x0),.int .i64 2]<|fun v4=>unT v4 fun _=>ldA 99 (a1) fun a7=>st 99 (a3) (.agg (.mk a7))<|qy (loadVar 99 a3)<|fun v9=>unA v9 fun a10=>K (.agg (.mk a10)))<|ldI .i64 3 (x0.add 12) fun n12=>ldI .i64 3 ((x0.add 6).add 2) fun n14=>br (decide (n12≥n14)) (st 3 (a1.add 2) (.int .i64 11)<|fn 389 [.pointer (some x0),.int .i64 2]<|fun v16=>unT v16 fun _=>ldA 99 (a1) fun a19=>st 99 (a3) (.agg (.mk a19))<|qy (loadVar 99 a3)<|fun v21=>unA v21 fun a22=>K (.agg (.mk a22)))<|ldI .i64 3 (x0.add 12) fun n24=>st 3 (x0.add 12) (.int .i64 (w64 (n24+1)))<|fn 233 [.pointer (some x0),.int .i64 x2]<|fun v26=>unT v26 fun _=>ldA 99 (a1) fun a29=>st 99 (a3) (.agg (.mk a29))<|qy (loadVar 99 a3)<|fun v31=>unA v31 fun a32=>K (.agg (.mk a32))
theorem f392 {x0:Addr} {x1:List Value} {x2:Int} (h:s392 x0 x1 x2 K cs):fn 392 [.pointer (some x0),.agg (.mk x1),.int .i64 x2] K cs:=fO (an:=⟨[],[]⟩) Tryz.func392 h
@[reducible] def s231 (x0:Int) (K:Value→SP):SP:=
 box 436 (.agg (.mk [.int .i64 (if 4096<if 1>x0 then 1 else x0 then 4096 else if 1>x0 then 1 else x0),.slice none 0 0,.int .i64 0,.slice none 0 0,.pointer none])) fun a1=>K (.pointer (some a1))
theorem f231 {x0:Int} (h:s231 x0 K cs):fn 231 [.int .i64 x0] K cs:=fO (an:=⟨[],[]⟩) Tryz.func231 h
@[reducible] def s252 (x0:Addr) (K:Value→SP):SP:=
 ldL 110 (x0.add 1) fun _ n2 _=>ldI .i64 3 (x0.add 2) fun n5=>K (.int .i64 (w64 ((n2:Int)-n5)))
theorem f252 {x0:Addr} (h:s252 x0 K cs):fn 252 [.pointer (some x0)] K cs:=fO (an:=⟨[],[]⟩) Tryz.func252 h
@[reducible] def s325 (x0:Addr) (x1:Option Addr) (y1:Nat) (z1:Nat) (K:Value→SP):SP:=
 fn 386 [.slice x1 y1 z1]<|fun v0=>unT v0 fun t1=>ex (0<t1.length)<|unP (t1.getD 0 undef) fun p2=>ex (1<t1.length)<|unI .i64 (t1.getD 1 undef) fun _=>ex (2<t1.length)<|unI .i64 (t1.getD 2 undef) fun i4=>br (i4 != 0) (K (.int .i64 i4))<|fn 387 [.slice x1 y1 z1]<|fun v5=>unL v5 fun a6 n7 c8=>st 144 (x0.add 3) (.slice a6 n7 c8)<|st 434 (x0.add 4) (.pointer p2)<|st 3 (x0.add 2) (.int .i64 0)<|K (.int .i64 0)
theorem f325 {x0:Addr} {x1:Option Addr} {y1 z1:Nat} (h:s325 x0 x1 y1 z1 K cs):fn 325 [.pointer (some x0),.slice x1 y1 z1] K cs:=fO (an:=⟨[],[]⟩) Tryz.func325 h
@[reducible] def s418 (x0:Addr) (x1:Option Addr) (K:Value→SP):SP:=
 new 514 fun a1=>new 514 fun a3=>Lp (fun self4 _=>Jn (fun _=>fn 432 [.pointer (some x0)]<|fun v8=>unT v8 fun t9=>ex (0<t9.length)<|unI .i64 (t9.getD 0 undef) fun i10=>ex (1<t9.length)<|unB (t9.getD 1 undef) fun b11=>br (b11) (ldI .i64 3 (x0.add 2) fun n13=>st 4 (a3.add 0) (.bool true)<|stb (Instr.loadAt 3 (.pointer (some (x0.add 2)))) (.int .i64 n13)<|st 3 (a3.add 2) (.int .i64 i10)<|stb (Instr.loadAt 3 (.pointer (some (x0.add 2)))) (.int .i64 n13)<|st 3 (a3.add 3) (.int .i64 n13)<|ldI .i64 3 (x0.add 2) fun n18=>fn 433 [.pointer (some x0),.int .i64 n18]<|fun v19=>unT v19 fun _=>ldA 514 (a3) fun a22=>st 514 (a1) (.agg (.mk a22))<|qy (loadVar 514 a1)<|fun v24=>unA v24 fun a25=>K (.agg (.mk a25)))<|self4 [])<|fun j7=>ldI .i64 3 (x0.add 2) fun n27=>ldL 110 (x0.add 1) fun _ n30 _=>br (n27 == (n30:Int)) (fn 248 [.pointer x1]<|fun v32=>unI .i64 v32 fun n33=>br (n33 == 0) (ldA 514 (a3) fun a35=>st 514 (a1) (.agg (.mk a35))<|qy (loadVar 514 a1)<|fun v37=>unA v37 fun a38=>K (.agg (.mk a38)))<|ldL 110 (x0.add 1) fun _ n41 _=>ldI .i64 3 (x0.add 0) fun n44=>br ((n41:Int) == n44) (st 4 (a3.add 1) (.bool true)<|ldA 514 (a3) fun a47=>st 514 (a1) (.agg (.mk a47))<|qy (loadVar 514 a1)<|fun v49=>unA v49 fun a50=>K (.agg (.mk a50)))<|ldL 110 (x0.add 1) fun a52 n53 c54=>fn 431 [.pointer x1,.int .i64 1]<|fun v55=>unS v55 fun s56=>stb (Instr.loadAt 110 (.pointer (some (x0.add 1)))) (.slice a52 n53 c54)<|qy (Instr.index 9 (.string s56) (.int .i64 0))<|fun v57=>unI .u8 v57 fun n58=>sm (Instr.buildSlice 110 1 (Array.mk [(0,.int .u8 n58)]))<|fun v59=>unL v59 fun a60 n61 c62=>stb (Instr.loadAt 110 (.pointer (some (x0.add 1)))) (.slice a52 n53 c54)<|sm (Builtin.append_ (Array.mk [110,110]) 110 (Array.mk [.slice a52 n53 c54,.slice a60 n61 c62]))<|fun v63=>unL v63 fun a64 n65 c66=>st 110 (x0.add 1) (.slice a64 n65 c66)<|ldI .i64 3 (a3.add 4) fun n69=>st 3 (a3.add 4) (.int .i64 (w64 (n69+1)))<|j7 [])<|j7 []) []
theorem f418 {x0:Addr} {x1:Option Addr} (h:s418 x0 x1 K cs):fn 418 [.pointer (some x0),.pointer x1] K cs:=fO (an:=⟨[(4,[])],[(12,[])]⟩) Tryz.func418 h
@[reducible] def s432 (x0:Addr) (K:Value→SP):SP:=
 ldI .i64 3 (x0.add 2) fun n1=>st 3 (x0.add 2) (.int .i64 (w64 (n1+1)))<|ldP 434 (x0.add 4) fun p4=>ldL 110 (x0.add 1) fun a6 n7 c8=>ldI .i64 3 (x0.add 2) fun n10=>ix 110 (.slice a6 n7 c8) (w64 (n10-1)) fun a12=>ldI .u8 5 (a12) fun n14=>fn 448 [.pointer p4,.int .u8 n14]<|fun v15=>unT v15 fun t16=>ex (0<t16.length)<|unI .i64 (t16.getD 0 undef) fun i17=>ex (1<t16.length)<|unB (t16.getD 1 undef) fun b18=>K (.tuple (Array.mk [.int .i64 i17,.bool b18]))
theorem f432 {x0:Addr} (h:s432 x0 K cs):fn 432 [.pointer (some x0)] K cs:=fO (an:=⟨[],[]⟩) Tryz.func432 h
@[reducible] def s433 (x0:Addr) (x1:Int) (K:Value→SP):SP:=
 ldL 110 (x0.add 1) fun a1 n2 c3=>qy (Instr.sliceAt 110 (.slice a1 n2 c3) none (some (.int .i64 0)) (some (.int .i64 0)))<|fun v4=>unL v4 fun a5 n6 c7=>ldL 110 (x0.add 1) fun a9 n10 c11=>qy (Instr.sliceAt 110 (.slice a9 n10 c11) (some (.int .i64 x1)) none none)<|fun v12=>unL v12 fun a13 n14 c15=>sm (Builtin.append_ (Array.mk [110,110]) 110 (Array.mk [.slice a5 n6 c7,.slice a13 n14 c15]))<|fun v16=>unL v16 fun a17 n18 c19=>st 110 (x0.add 1) (.slice a17 n18 c19)<|st 3 (x0.add 2) (.int .i64 0)<|ldP 434 (x0.add 4) fun p23=>fn 449 [.pointer p23]<|fun v24=>unT v24 fun _=>K (undef)
theorem f433 {x0:Addr} {x1:Int} (h:s433 x0 x1 K cs):fn 433 [.pointer (some x0),.int .i64 x1] K cs:=fO (an:=⟨[],[]⟩) Tryz.func433 h
@[reducible] def s26 (x0:List Value) (x1:Option Addr) (y1:Nat) (z1:Nat) (K:Value→SP):SP:=
 box 23 (.agg (.mk x0)) fun a1=>ldA 23 (a1) fun a3=>fn 68 [.agg (.mk a3)]<|fun v4=>unB v4 fun b5=>br (!b5) (K (.tuple (Array.mk [.pointer none,.int .i64 1])))<|br (decide ((y1:Int)>64)) (K (.tuple (Array.mk [.pointer none,.int .i64 4])))<|Jn (fun l6=>unP (l6.headD undef) fun p8=>Lp (fun self9 l10=>unI .i64 (l10.headD undef) fun i11=>br (decide (i11<(y1:Int))) (ix 24 (.slice x1 y1 z1) (i11) fun a13=>ldA 45 (a13) fun a15=>new 45 fun a17=>st 45 (a17) (.agg (.mk a15))<|nn (p8) fun a19=>ldL 24 (a19.add 6) fun a21 n22 c23=>ldA 45 (a17) fun a25=>fn 82 [.agg (.mk a25)]<|fun v26=>unA v26 fun a27=>stb (Instr.loadAt 24 (.pointer (some (a19.add 6)))) (.slice a21 n22 c23)<|sm (Instr.buildSlice 24 1 (Array.mk [(0,.agg (.mk a27))]))<|fun v28=>unL v28 fun a29 n30 c31=>stb (Instr.loadAt 24 (.pointer (some (a19.add 6)))) (.slice a21 n22 c23)<|sm (Builtin.append_ (Array.mk [24,24]) 24 (Array.mk [.slice a21 n22 c23,.slice a29 n30 c31]))<|fun v32=>unL v32 fun a33 n34 c35=>nn (p8) fun a36=>st 24 (a36.add 6) (.slice a33 n34 c35)<|self9 [.int .i64 (w64 (i11+1))])<|K (.tuple (Array.mk [.pointer p8,.int .i64 0]))) [.int .i64 0])<|fun j7=>ldA 23 (a1) fun a39=>ldI .i64 3 (a1.add 0) fun n41=>ldI .i64 3 (a1.add 0) fun n43=>ldI .i64 3 (a1.add 0) fun n45=>ldI .i64 3 (a1.add 4) fun n47=>ldI .i64 3 (a1.add 0) fun n49=>an (fn 79 [.int .i64 n41]<|fun v50=>unP v50 fun p51=>stb (Instr.loadAt 3 (.pointer (some (a1.add 0)))) (.int .i64 n49)<|stb (Instr.loadAt 3 (.pointer (some (a1.add 4)))) (.int .i64 n47)<|stb (Instr.loadAt 3 (.pointer (some (a1.add 0)))) (.int .i64 n45)<|stb (Instr.loadAt 3 (.pointer (some (a1.add 0)))) (.int .i64 n43)<|stb (Instr.loadAt 23 (.pointer (some a1))) (.agg (.mk a39))<|an (sm (Instr.makeSlice 168 (.int .i64 n43) (.int .i64 n43))<|fun v52=>unL v52 fun a53 n54 c55=>stb (Instr.loadAt 3 (.pointer (some (a1.add 0)))) (.int .i64 n49)<|stb (Instr.loadAt 3 (.pointer (some (a1.add 4)))) (.int .i64 n47)<|stb (Instr.loadAt 3 (.pointer (some (a1.add 0)))) (.int .i64 n45)<|stb (Instr.loadAt 23 (.pointer (some a1))) (.agg (.mk a39))<|an (fn 80 [.int .i64 n45,.int .i64 n47]<|fun v56=>unP v56 fun p57=>stb (Instr.loadAt 3 (.pointer (some (a1.add 0)))) (.int .i64 n49)<|stb (Instr.loadAt 23 (.pointer (some a1))) (.agg (.mk a39))<|an (fn 81 [.int .i64 n49]<|fun v58=>unP v58 fun p59=>stb (Instr.loadAt 23 (.pointer (some a1))) (.agg (.mk a39))<|sm (Instr.makeMap 88 none)<|fun v60=>unM v60 fun m61=>stb (Instr.loadAt 23 (.pointer (some a1))) (.agg (.mk a39))<|qy (Instr.build 174 (Array.mk [(0,.agg (.mk a39)),(2,.pointer p51),(3,.slice a53 n54 c55),(4,.pointer p57),(5,.pointer p59),(6,.map m61)]))<|fun v62=>unA v62 fun a63=>box 174 (.agg (.mk a63)) fun a65=>j7 [.pointer (some a65)])<|sm (Instr.makeMap 88 none)<|fun v66=>unM v66 fun m67=>stb (Instr.loadAt 3 (.pointer (some (a1.add 0)))) (.int .i64 n49)<|stb (Instr.loadAt 23 (.pointer (some a1))) (.agg (.mk a39))<|fn 81 [.int .i64 n49]<|fun v68=>unP v68 fun p69=>stb (Instr.loadAt 23 (.pointer (some a1))) (.agg (.mk a39))<|qy (Instr.build 174 (Array.mk [(0,.agg (.mk a39)),(2,.pointer p51),(3,.slice a53 n54 c55),(4,.pointer p57),(5,.pointer p69),(6,.map m67)]))<|fun v70=>unA v70 fun a71=>box 174 (.agg (.mk a71)) fun a73=>j7 [.pointer (some a73)])<|sm (Instr.makeMap 88 none)<|fun v74=>unM v74 fun m75=>stb (Instr.loadAt 3 (.pointer (some (a1.add 0)))) (.int .i64 n49)<|stb (Instr.loadAt 3 (.pointer (some (a1.add 4)))) (.int .i64 n47)<|stb (Instr.loadAt 3 (.pointer (some (a1.add 0)))) (.int .i64 n45)<|stb (Instr.loadAt 23 (.pointer (some a1))) (.agg (.mk a39))<|fn 80 [.int .i64 n45,.int .i64 n47]<|fun v76=>unP v76 fun p77=>stb (Instr.loadAt 3 (.pointer (some (a1.add 0)))) (.int .i64 n49)<|stb (Instr.loadAt 23 (.pointer (some a1))) (.agg (.mk a39))<|fn 81 [.int .i64 n49]<|fun v78=>unP v78 fun p79=>stb (Instr.loadAt 23 (.pointer (some a1))) (.agg (.mk a39))<|qy (Instr.build 174 (Array.mk [(0,.agg (.mk a39)),(2,.pointer p51),(3,.slice a53 n54 c55),(4,.pointer p77),(5,.pointer p79),(6,.map m75)]))<|fun v80=>unA v80 fun a81=>box 174 (.agg (.mk a81)) fun a83=>j7 [.pointer (some a83)])<|an (fn 80 [.int .i64 n45,.int .i64 n47]<|fun v84=>unP v84 fun p85=>stb (Instr.loadAt 3 (.pointer (some (a1.add 0)))) (.int .i64 n49)<|stb (Instr.loadAt 3 (.pointer (some (a1.add 0)))) (.int .i64 n43)<|stb (Instr.loadAt 23 (.pointer (some a1))) (.agg (.mk a39))<|an (sm (Instr.makeSlice 168 (.int .i64 n43) (.int .i64 n43))<|fun v86=>unL v86 fun a87 n88 c89=>stb (Instr.loadAt 3 (.pointer (some (a1.add 0)))) (.int .i64 n49)<|stb (Instr.loadAt 23 (.pointer (some a1))) (.agg (.mk a39))<|an (fn 81 [.int .i64 n49]<|fun v90=>unP v90 fun p91=>stb (Instr.loadAt 23 (.pointer (some a1))) (.agg (.mk a39))<|sm (Instr.makeMap 88 none)<|fun v92=>unM v92 fun m93=>stb (Instr.loadAt 23 (.pointer (some a1))) (.agg (.mk a39))<|qy (Instr.build 174 (Array.mk [(0,.agg (.mk a39)),(2,.pointer p51),(3,.slice a87 n88 c89),(4,.pointer p85),(5,.pointer p91),(6,.map m93)]))<|fun v94=>unA v94 fun a95=>box 174 (.agg (.mk a95)) fun a97=>j7 [.pointer (some a97)])<|sm (Instr.makeMap 88 none)<|fun v98=>unM v98 fun m99=>stb (Instr.loadAt 3 (.pointer (some (a1.add 0)))) (.int .i64 n49)<|stb (Instr.loadAt 23 (.pointer (some a1))) (.agg (.mk a39))<|fn 81 [.int .i64 n49]<|fun v100=>unP v100 fun p101=>stb (Instr.loadAt 23 (.pointer (some a1))) (.agg (.mk a39))<|qy (Instr.build 174 (Array.mk [(0,.agg (.mk a39)),(2,.pointer p51),(3,.slice a87 n88 c89),(4,.pointer p85),(5,.pointer p101),(6,.map m99)]))<|fun v102=>unA v102 fun a103=>box 174 (.agg (.mk a103)) fun a105=>j7 [.pointer (some a105)])<|an (fn 81 [.int .i64 n49]<|fun v106=>unP v106 fun p107=>stb (Instr.loadAt 3 (.pointer (some (a1.add 0)))) (.int .i64 n43)<|stb (Instr.loadAt 23 (.pointer (some a1))) (.agg (.mk a39))<|an (sm (Instr.makeSlice 168 (.int .i64 n43) (.int .i64 n43))<|fun v108=>unL v108 fun a109 n110 c111=>stb (Instr.loadAt 23 (.pointer (some a1))) (.agg (.mk a39))<|sm (Instr.makeMap 88 none)<|fun v112=>unM v112 fun m113=>stb (Instr.loadAt 23 (.pointer (some a1))) (.agg (.mk a39))<|qy (Instr.build 174 (Array.mk [(0,.agg (.mk a39)),(2,.pointer p51),(3,.slice a109 n110 c111),(4,.pointer p85),(5,.pointer p107),(6,.map m113)]))<|fun v114=>unA v114 fun a115=>box 174 (.agg (.mk a115)) fun a117=>j7 [.pointer (some a117)])<|sm (Instr.makeMap 88 none)<|fun v118=>unM v118 fun m119=>stb (Instr.loadAt 3 (.pointer (some (a1.add 0)))) (.int .i64 n43)<|stb (Instr.loadAt 23 (.pointer (some a1))) (.agg (.mk a39))<|sm (Instr.makeSlice 168 (.int .i64 n43) (.int .i64 n43))<|fun v120=>unL v120 fun a121 n122 c123=>stb (Instr.loadAt 23 (.pointer (some a1))) (.agg (.mk a39))<|qy (Instr.build 174 (Array.mk [(0,.agg (.mk a39)),(2,.pointer p51),(3,.slice a121 n122 c123),(4,.pointer p85),(5,.pointer p107),(6,.map m119)]))<|fun v124=>unA v124 fun a125=>box 174 (.agg (.mk a125)) fun a127=>j7 [.pointer (some a127)])<|sm (Instr.makeMap 88 none)<|fun v128=>unM v128 fun m129=>stb (Instr.loadAt 3 (.pointer (some (a1.add 0)))) (.int .i64 n49)<|stb (Instr.loadAt 3 (.pointer (some (a1.add 0)))) (.int .i64 n43)<|stb (Instr.loadAt 23 (.pointer (some a1))) (.agg (.mk a39))<|an (sm (Instr.makeSlice 168 (.int .i64 n43) (.int .i64 n43))<|fun v130=>unL v130 fun a131 n132 c133=>stb (Instr.loadAt 3 (.pointer (some (a1.add 0)))) (.int .i64 n49)<|stb (Instr.loadAt 23 (.pointer (some a1))) (.agg (.mk a39))<|fn 81 [.int .i64 n49]<|fun v134=>unP v134 fun p135=>stb (Instr.loadAt 23 (.pointer (some a1))) (.agg (.mk a39))<|qy (Instr.build 174 (Array.mk [(0,.agg (.mk a39)),(2,.pointer p51),(3,.slice a131 n132 c133),(4,.pointer p85),(5,.pointer p135),(6,.map m129)]))<|fun v136=>unA v136 fun a137=>box 174 (.agg (.mk a137)) fun a139=>j7 [.pointer (some a139)])<|fn 81 [.int .i64 n49]<|fun v140=>unP v140 fun p141=>stb (Instr.loadAt 3 (.pointer (some (a1.add 0)))) (.int .i64 n43)<|stb (Instr.loadAt 23 (.pointer (some a1))) (.agg (.mk a39))<|sm (Instr.makeSlice 168 (.int .i64 n43) (.int .i64 n43))<|fun v142=>unL v142 fun a143 n144 c145=>stb (Instr.loadAt 23 (.pointer (some a1))) (.agg (.mk a39))<|qy (Instr.build 174 (Array.mk [(0,.agg (.mk a39)),(2,.pointer p51),(3,.slice a143 n144 c145),(4,.pointer p85),(5,.pointer p141),(6,.map m129)]))<|fun v146=>unA v146 fun a147=>box 174 (.agg (.mk a147)) fun a149=>j7 [.pointer (some a149)])<|sm (Instr.makeMap 88 none)<|fun v150=>unM v150 fun m151=>stb (Instr.loadAt 3 (.pointer (some (a1.add 0)))) (.int .i64 n49)<|stb (Instr.loadAt 3 (.pointer (some (a1.add 4)))) (.int .i64 n47)<|stb (Instr.loadAt 3 (.pointer (some (a1.add 0)))) (.int .i64 n45)<|stb (Instr.loadAt 3 (.pointer (some (a1.add 0)))) (.int .i64 n43)<|stb (Instr.loadAt 23 (.pointer (some a1))) (.agg (.mk a39))<|an (sm (Instr.makeSlice 168 (.int .i64 n43) (.int .i64 n43))<|fun v152=>unL v152 fun a153 n154 c155=>stb (Instr.loadAt 3 (.pointer (some (a1.add 0)))) (.int .i64 n49)<|stb (Instr.loadAt 3 (.pointer (some (a1.add 4)))) (.int .i64 n47)<|stb (Instr.loadAt 3 (.pointer (some (a1.add 0)))) (.int .i64 n45)<|stb (Instr.loadAt 23 (.pointer (some a1))) (.agg (.mk a39))<|fn 80 [.int .i64 n45,.int .i64 n47]<|fun v156=>unP v156 fun p157=>stb (Instr.loadAt 3 (.pointer (some (a1.add 0)))) (.int .i64 n49)<|stb (Instr.loadAt 23 (.pointer (some a1))) (.agg (.mk a39))<|fn 81 [.int .i64 n49]<|fun v158=>unP v158 fun p159=>stb (Instr.loadAt 23 (.pointer (some a1))) (.agg (.mk a39))<|qy (Instr.build 174 (Array.mk [(0,.agg (.mk a39)),(2,.pointer p51),(3,.slice a153 n154 c155),(4,.pointer p157),(5,.pointer p159),(6,.map m151)]))<|fun v160=>unA v160 fun a161=>box 174 (.agg (.mk a161)) fun a163=>j7 [.pointer (some a163)])<|fn 80 [.int .i64 n45,.int .i64 n47]<|fun v164=>unP v164 fun p165=>stb (Instr.loadAt 3 (.pointer (some (a1.add 0)))) (.int .i64 n49)<|stb (Instr.loadAt 3 (.pointer (some (a1.add 0)))) (.int .i64 n43)<|stb (Instr.loadAt 23 (.pointer (some a1))) (.agg (.mk a39))<|an (sm (Instr.makeSlice 168 (.int .i64 n43) (.int .i64 n43))<|fun v166=>unL v166 fun a167 n168 c169=>stb (Instr.loadAt 3 (.pointer (some (a1.add 0)))) (.int .i64 n49)<|stb (Instr.loadAt 23 (.pointer (some a1))) (.agg (.mk a39))<|fn 81 [.int .i64 n49]<|fun v170=>unP v170 fun p171=>stb (Instr.loadAt 23 (.pointer (some a1))) (.agg (.mk a39))<|qy (Instr.build 174 (Array.mk [(0,.agg (.mk a39)),(2,.pointer p51),(3,.slice a167 n168 c169),(4,.pointer p165),(5,.pointer p171),(6,.map m151)]))<|fun v172=>unA v172 fun a173=>box 174 (.agg (.mk a173)) fun a175=>j7 [.pointer (some a175)])<|fn 81 [.int .i64 n49]<|fun v176=>unP v176 fun p177=>stb (Instr.loadAt 3 (.pointer (some (a1.add 0)))) (.int .i64 n43)<|stb (Instr.loadAt 23 (.pointer (some a1))) (.agg (.mk a39))<|sm (Instr.makeSlice 168 (.int .i64 n43) (.int .i64 n43))<|fun v178=>unL v178 fun a179 n180 c181=>stb (Instr.loadAt 23 (.pointer (some a1))) (.agg (.mk a39))<|qy (Instr.build 174 (Array.mk [(0,.agg (.mk a39)),(2,.pointer p51),(3,.slice a179 n180 c181),(4,.pointer p165),(5,.pointer p177),(6,.map m151)]))<|fun v182=>unA v182 fun a183=>box 174 (.agg (.mk a183)) fun a185=>j7 [.pointer (some a185)])<|an (sm (Instr.makeSlice 168 (.int .i64 n43) (.int .i64 n43))<|fun v186=>unL v186 fun a187 n188 c189=>stb (Instr.loadAt 3 (.pointer (some (a1.add 0)))) (.int .i64 n49)<|stb (Instr.loadAt 3 (.pointer (some (a1.add 4)))) (.int .i64 n47)<|stb (Instr.loadAt 3 (.pointer (some (a1.add 0)))) (.int .i64 n45)<|stb (Instr.loadAt 3 (.pointer (some (a1.add 0)))) (.int .i64 n41)<|stb (Instr.loadAt 23 (.pointer (some a1))) (.agg (.mk a39))<|an (fn 79 [.int .i64 n41]<|fun v190=>unP v190 fun p191=>stb (Instr.loadAt 3 (.pointer (some (a1.add 0)))) (.int .i64 n49)<|stb (Instr.loadAt 3 (.pointer (some (a1.add 4)))) (.int .i64 n47)<|stb (Instr.loadAt 3 (.pointer (some (a1.add 0)))) (.int .i64 n45)<|stb (Instr.loadAt 23 (.pointer (some a1))) (.agg (.mk a39))<|an (fn 80 [.int .i64 n45,.int .i64 n47]<|fun v192=>unP v192 fun p193=>stb (Instr.loadAt 3 (.pointer (some (a1.add 0)))) (.int .i64 n49)<|stb (Instr.loadAt 23 (.pointer (some a1))) (.agg (.mk a39))<|an (fn 81 [.int .i64 n49]<|fun v194=>unP v194 fun p195=>stb (Instr.loadAt 23 (.pointer (some a1))) (.agg (.mk a39))<|sm (Instr.makeMap 88 none)<|fun v196=>unM v196 fun m197=>stb (Instr.loadAt 23 (.pointer (some a1))) (.agg (.mk a39))<|qy (Instr.build 174 (Array.mk [(0,.agg (.mk a39)),(2,.pointer p191),(3,.slice a187 n188 c189),(4,.pointer p193),(5,.pointer p195),(6,.map m197)]))<|fun v198=>unA v198 fun a199=>box 174 (.agg (.mk a199)) fun a201=>j7 [.pointer (some a201)])<|sm (Instr.makeMap 88 none)<|fun v202=>unM v202 fun m203=>stb (Instr.loadAt 3 (.pointer (some (a1.add 0)))) (.int .i64 n49)<|stb (Instr.loadAt 23 (.pointer (some a1))) (.agg (.mk a39))<|fn 81 [.int .i64 n49]<|fun v204=>unP v204 fun p205=>stb (Instr.loadAt 23 (.pointer (some a1))) (.agg (.mk a39))<|qy (Instr.build 174 (Array.mk [(0,.agg (.mk a39)),(2,.pointer p191),(3,.slice a187 n188 c189),(4,.pointer p193),(5,.pointer p205),(6,.map m203)]))<|fun v206=>unA v206 fun a207=>box 174 (.agg (.mk a207)) fun a209=>j7 [.pointer (some a209)])<|sm (Instr.makeMap 88 none)<|fun v210=>unM v210 fun m211=>stb (Instr.loadAt 3 (.pointer (some (a1.add 0)))) (.int .i64 n49)<|stb (Instr.loadAt 3 (.pointer (some (a1.add 4)))) (.int .i64 n47)<|stb (Instr.loadAt 3 (.pointer (some (a1.add 0)))) (.int .i64 n45)<|stb (Instr.loadAt 23 (.pointer (some a1))) (.agg (.mk a39))<|fn 80 [.int .i64 n45,.int .i64 n47]<|fun v212=>unP v212 fun p213=>stb (Instr.loadAt 3 (.pointer (some (a1.add 0)))) (.int .i64 n49)<|stb (Instr.loadAt 23 (.pointer (some a1))) (.agg (.mk a39))<|fn 81 [.int .i64 n49]<|fun v214=>unP v214 fun p215=>stb (Instr.loadAt 23 (.pointer (some a1))) (.agg (.mk a39))<|qy (Instr.build 174 (Array.mk [(0,.agg (.mk a39)),(2,.pointer p191),(3,.slice a187 n188 c189),(4,.pointer p213),(5,.pointer p215),(6,.map m211)]))<|fun v216=>unA v216 fun a217=>box 174 (.agg (.mk a217)) fun a219=>j7 [.pointer (some a219)])<|sm (Instr.makeMap 88 none)<|fun v220=>unM v220 fun m221=>stb (Instr.loadAt 3 (.pointer (some (a1.add 0)))) (.int .i64 n49)<|stb (Instr.loadAt 3 (.pointer (some (a1.add 4)))) (.int .i64 n47)<|stb (Instr.loadAt 3 (.pointer (some (a1.add 0)))) (.int .i64 n45)<|stb (Instr.loadAt 3 (.pointer (some (a1.add 0)))) (.int .i64 n41)<|stb (Instr.loadAt 23 (.pointer (some a1))) (.agg (.mk a39))<|fn 79 [.int .i64 n41]<|fun v222=>unP v222 fun p223=>stb (Instr.loadAt 3 (.pointer (some (a1.add 0)))) (.int .i64 n49)<|stb (Instr.loadAt 3 (.pointer (some (a1.add 4)))) (.int .i64 n47)<|stb (Instr.loadAt 3 (.pointer (some (a1.add 0)))) (.int .i64 n45)<|stb (Instr.loadAt 23 (.pointer (some a1))) (.agg (.mk a39))<|fn 80 [.int .i64 n45,.int .i64 n47]<|fun v224=>unP v224 fun p225=>stb (Instr.loadAt 3 (.pointer (some (a1.add 0)))) (.int .i64 n49)<|stb (Instr.loadAt 23 (.pointer (some a1))) (.agg (.mk a39))<|fn 81 [.int .i64 n49]<|fun v226=>unP v226 fun p227=>stb (Instr.loadAt 23 (.pointer (some a1))) (.agg (.mk a39))<|qy (Instr.build 174 (Array.mk [(0,.agg (.mk a39)),(2,.pointer p223),(3,.slice a187 n188 c189),(4,.pointer p225),(5,.pointer p227),(6,.map m221)]))<|fun v228=>unA v228 fun a229=>box 174 (.agg (.mk a229)) fun a231=>j7 [.pointer (some a231)])<|sm (Instr.makeMap 88 none)<|fun v232=>unM v232 fun m233=>stb (Instr.loadAt 3 (.pointer (some (a1.add 0)))) (.int .i64 n49)<|stb (Instr.loadAt 3 (.pointer (some (a1.add 4)))) (.int .i64 n47)<|stb (Instr.loadAt 3 (.pointer (some (a1.add 0)))) (.int .i64 n45)<|stb (Instr.loadAt 3 (.pointer (some (a1.add 0)))) (.int .i64 n43)<|stb (Instr.loadAt 3 (.pointer (some (a1.add 0)))) (.int .i64 n41)<|stb (Instr.loadAt 23 (.pointer (some a1))) (.agg (.mk a39))<|an (fn 79 [.int .i64 n41]<|fun v234=>unP v234 fun p235=>stb (Instr.loadAt 3 (.pointer (some (a1.add 0)))) (.int .i64 n49)<|stb (Instr.loadAt 3 (.pointer (some (a1.add 4)))) (.int .i64 n47)<|stb (Instr.loadAt 3 (.pointer (some (a1.add 0)))) (.int .i64 n45)<|stb (Instr.loadAt 3 (.pointer (some (a1.add 0)))) (.int .i64 n43)<|stb (Instr.loadAt 23 (.pointer (some a1))) (.agg (.mk a39))<|an (sm (Instr.makeSlice 168 (.int .i64 n43) (.int .i64 n43))<|fun v236=>unL v236 fun a237 n238 c239=>stb (Instr.loadAt 3 (.pointer (some (a1.add 0)))) (.int .i64 n49)<|stb (Instr.loadAt 3 (.pointer (some (a1.add 4)))) (.int .i64 n47)<|stb (Instr.loadAt 3 (.pointer (some (a1.add 0)))) (.int .i64 n45)<|stb (Instr.loadAt 23 (.pointer (some a1))) (.agg (.mk a39))<|fn 80 [.int .i64 n45,.int .i64 n47]<|fun v240=>unP v240 fun p241=>stb (Instr.loadAt 3 (.pointer (some (a1.add 0)))) (.int .i64 n49)<|stb (Instr.loadAt 23 (.pointer (some a1))) (.agg (.mk a39))<|fn 81 [.int .i64 n49]<|fun v242=>unP v242 fun p243=>stb (Instr.loadAt 23 (.pointer (some a1))) (.agg (.mk a39))<|qy (Instr.build 174 (Array.mk [(0,.agg (.mk a39)),(2,.pointer p235),(3,.slice a237 n238 c239),(4,.pointer p241),(5,.pointer p243),(6,.map m233)]))<|fun v244=>unA v244 fun a245=>box 174 (.agg (.mk a245)) fun a247=>j7 [.pointer (some a247)])<|fn 80 [.int .i64 n45,.int .i64 n47]<|fun v248=>unP v248 fun p249=>stb (Instr.loadAt 3 (.pointer (some (a1.add 0)))) (.int .i64 n49)<|stb (Instr.loadAt 3 (.pointer (some (a1.add 0)))) (.int .i64 n43)<|stb (Instr.loadAt 23 (.pointer (some a1))) (.agg (.mk a39))<|an (sm (Instr.makeSlice 168 (.int .i64 n43) (.int .i64 n43))<|fun v250=>unL v250 fun a251 n252 c253=>stb (Instr.loadAt 3 (.pointer (some (a1.add 0)))) (.int .i64 n49)<|stb (Instr.loadAt 23 (.pointer (some a1))) (.agg (.mk a39))<|fn 81 [.int .i64 n49]<|fun v254=>unP v254 fun p255=>stb (Instr.loadAt 23 (.pointer (some a1))) (.agg (.mk a39))<|qy (Instr.build 174 (Array.mk [(0,.agg (.mk a39)),(2,.pointer p235),(3,.slice a251 n252 c253),(4,.pointer p249),(5,.pointer p255),(6,.map m233)]))<|fun v256=>unA v256 fun a257=>box 174 (.agg (.mk a257)) fun a259=>j7 [.pointer (some a259)])<|fn 81 [.int .i64 n49]<|fun v260=>unP v260 fun p261=>stb (Instr.loadAt 3 (.pointer (some (a1.add 0)))) (.int .i64 n43)<|stb (Instr.loadAt 23 (.pointer (some a1))) (.agg (.mk a39))<|sm (Instr.makeSlice 168 (.int .i64 n43) (.int .i64 n43))<|fun v262=>unL v262 fun a263 n264 c265=>stb (Instr.loadAt 23 (.pointer (some a1))) (.agg (.mk a39))<|qy (Instr.build 174 (Array.mk [(0,.agg (.mk a39)),(2,.pointer p235),(3,.slice a263 n264 c265),(4,.pointer p249),(5,.pointer p261),(6,.map m233)]))<|fun v266=>unA v266 fun a267=>box 174 (.agg (.mk a267)) fun a269=>j7 [.pointer (some a269)])<|sm (Instr.makeSlice 168 (.int .i64 n43) (.int .i64 n43))<|fun v270=>unL v270 fun a271 n272 c273=>stb (Instr.loadAt 3 (.pointer (some (a1.add 0)))) (.int .i64 n49)<|stb (Instr.loadAt 3 (.pointer (some (a1.add 4)))) (.int .i64 n47)<|stb (Instr.loadAt 3 (.pointer (some (a1.add 0)))) (.int .i64 n45)<|stb (Instr.loadAt 3 (.pointer (some (a1.add 0)))) (.int .i64 n41)<|stb (Instr.loadAt 23 (.pointer (some a1))) (.agg (.mk a39))<|fn 79 [.int .i64 n41]<|fun v274=>unP v274 fun p275=>stb (Instr.loadAt 3 (.pointer (some (a1.add 0)))) (.int .i64 n49)<|stb (Instr.loadAt 3 (.pointer (some (a1.add 4)))) (.int .i64 n47)<|stb (Instr.loadAt 3 (.pointer (some (a1.add 0)))) (.int .i64 n45)<|stb (Instr.loadAt 23 (.pointer (some a1))) (.agg (.mk a39))<|fn 80 [.int .i64 n45,.int .i64 n47]<|fun v276=>unP v276 fun p277=>stb (Instr.loadAt 3 (.pointer (some (a1.add 0)))) (.int .i64 n49)<|stb (Instr.loadAt 23 (.pointer (some a1))) (.agg (.mk a39))<|fn 81 [.int .i64 n49]<|fun v278=>unP v278 fun p279=>stb (Instr.loadAt 23 (.pointer (some a1))) (.agg (.mk a39))<|qy (Instr.build 174 (Array.mk [(0,.agg (.mk a39)),(2,.pointer p275),(3,.slice a271 n272 c273),(4,.pointer p277),(5,.pointer p279),(6,.map m233)]))<|fun v280=>unA v280 fun a281=>box 174 (.agg (.mk a281)) fun a283=>j7 [.pointer (some a283)]
theorem f26 {x0:List Value} {x1:Option Addr} {y1 z1:Nat} (h:s26 x0 x1 y1 z1 K cs):fn 26 [.agg (.mk x0),.slice x1 y1 z1] K cs:=fO (an:=⟨[(7,[(37,.int .i64)])],[(6,[(6,.ptr)])]⟩) Tryz.func26 h
@[reducible] def s28 (x0:Addr) (x1:List Value) (K:Value→SP):SP:=
 box 73 (.agg (.mk x1)) fun a1=>st 30 (x0.add 16) (.slice none 0 0)<|ldI .i64 3 (x0.add 13) fun n4=>st 3 (x0.add 13) (.int .i64 (w64 (n4+1)))<|ldI .i64 2 (x0.add 12) fun n7=>ldI .i64 2 (a1.add 0) fun n9=>fn 85 [.int .i64 n7,.int .i64 n9]<|fun v10=>unI .i64 v10 fun n11=>st 2 (x0.add 12) (.int .i64 (if 9223372036854775806<n11 then 9223372036854775806 else n11))<|ldI .i64 2 (x0.add 12) fun n14=>fn 86 [.pointer (some x0),.agg (.mk [.int .i64 1,.int .i64 0,.int .i64 0,.int .i64 n14,.string (bs []),.int .i64 0,.int .i64 0,.int .i64 0,.int .i64 0,.int .i64 0,.int .i64 0,.int .i64 0])]<|fun v15=>unT v15 fun _=>ldL 34 (a1.add 1) fun a18 n19 c20=>fn 87 [.slice a18 n19 c20,.func (Fn.func 88) (Array.mk [.pointer (some x0)]) (Array.mk [])]<|fun v21=>unT v21 fun _=>ldL 70 (a1.add 2) fun a24 n25 c26=>fn 89 [.slice a24 n25 c26,.func (Fn.func 90) (Array.mk [.pointer (some x0)]) (Array.mk [])]<|fun v27=>unT v27 fun _=>ldA 73 (a1) fun a30=>fn 91 [.pointer (some x0),.agg (.mk a30)]<|fun v31=>unT v31 fun _=>ldL 71 (a1.add 3) fun a34 n35 c36=>fn 92 [.slice a34 n35 c36,.func (Fn.func 93) (Array.mk [.pointer (some x0)]) (Array.mk [])]<|fun v37=>unT v37 fun _=>ldP 171 (x0.add 10) fun p40=>ldI .i64 2 (x0.add 12) fun n42=>fn 95 [.pointer p40,.int .i64 n42]<|fun v43=>unL v43 fun a44 n45 c46=>fn 94 [.slice a44 n45 c46,.func (Fn.func 96) (Array.mk [.pointer (some x0)]) (Array.mk [])]<|fun v47=>unT v47 fun _=>Jn (fun _=>ldB 4 (x0.add 14) fun b52=>br (b52) (ldB 4 (x0.add 15) fun b54=>br (!b54) (ldP 166 (x0.add 7) fun p56=>fn 98 [.pointer p56]<|fun v57=>unL v57 fun _ n59 _=>br ((n59:Int) == 0) (st 4 (x0.add 15) (.bool true)<|fn 86 [.pointer (some x0),.agg (.mk [.int .i64 9,.int .i64 0,.int .i64 0,.int .i64 0,.string (bs []),.int .i64 0,.int .i64 0,.int .i64 0,.int .i64 0,.int .i64 0,.int .i64 0,.int .i64 0])]<|fun v62=>unT v62 fun _=>ldL 30 (x0.add 16) fun a65 n66 c67=>K (.slice a65 n66 c67))<|ldL 30 (x0.add 16) fun a69 n70 c71=>K (.slice a69 n70 c71))<|ldL 30 (x0.add 16) fun a73 n74 c75=>K (.slice a73 n74 c75))<|ldL 30 (x0.add 16) fun a77 n78 c79=>K (.slice a77 n78 c79))<|fun j50=>Lp (fun self80 l81=>unI .i64 (l81.headD undef) fun i82=>ldI .i64 3 ((x0.add 0).add 5) fun n84=>br (decide (i82<n84)) (fn 97 [.pointer (some x0)]<|fun v85=>unB v85 fun b86=>br (b86) (self80 [.int .i64 (w64 (i82+1))])<|j50 [])<|j50 []) [.int .i64 0]
theorem f28 {x0:Addr} {x1:List Value} (h:s28 x0 x1 K cs):fn 28 [.pointer (some x0),.agg (.mk x1)] K cs:=fO (an:=⟨[(13,[(5,.int .i64)])],[(15,[])]⟩) Tryz.func28 h
@[reducible] def s29 (x0:Addr) (K:Value→SP):SP:=
 ldP 166 (x0.add 7) fun p1=>fn 98 [.pointer p1]<|fun v2=>unL v2 fun a3 n4 c5=>K (.slice a3 n4 c5)
theorem f29 {x0:Addr} (h:s29 x0 K cs):fn 29 [.pointer (some x0)] K cs:=fO (an:=⟨[],[]⟩) Tryz.func29 h
@[reducible] def s32 (x0:Addr) (K:Value→SP):SP:=
 fn 101 [.pointer (some x0),.func (Fn.func 102) (Array.mk []) (Array.mk [])]<|fun v0=>unL v0 fun a1 n2 c3=>K (.slice a1 n2 c3)
theorem f32 {x0:Addr} (h:s32 x0 K cs):fn 32 [.pointer (some x0)] K cs:=fO (an:=⟨[],[]⟩) Tryz.func32 h
@[reducible] def s33 (x0:Addr) (K:Value→SP):SP:=
 fn 101 [.pointer (some x0),.func (Fn.func 103) (Array.mk []) (Array.mk [])]<|fun v0=>unL v0 fun a1 n2 c3=>K (.slice a1 n2 c3)
theorem f33 {x0:Addr} (h:s33 x0 K cs):fn 33 [.pointer (some x0)] K cs:=fO (an:=⟨[],[]⟩) Tryz.func33 h
@[reducible] def s86 (x0:Addr) (x1:List Value) (K:Value→SP):SP:=
 box 101 (.agg (.mk x1)) fun a1=>ldL 30 (x0.add 16) fun a3 n4 c5=>ldA 101 (a1) fun a7=>sm (Instr.buildSlice 30 1 (Array.mk [(0,.agg (.mk a7))]))<|fun v8=>unL v8 fun a9 n10 c11=>stb (Instr.loadAt 30 (.pointer (some (x0.add 16)))) (.slice a3 n4 c5)<|sm (Builtin.append_ (Array.mk [30,30]) 30 (Array.mk [.slice a3 n4 c5,.slice a9 n10 c11]))<|fun v12=>unL v12 fun a13 n14 c15=>st 30 (x0.add 16) (.slice a13 n14 c15)<|K (undef)
theorem f86 {x0:Addr} {x1:List Value} (h:s86 x0 x1 K cs):fn 86 [.pointer (some x0),.agg (.mk x1)] K cs:=fO (an:=⟨[],[]⟩) Tryz.func86 h
@[reducible] def s87 (x0:Option Addr) (y0:Nat) (z0:Nat) (x1:Value) (K:Value→SP):SP:=
 Lp (fun self0 l1=>unI .i64 (l1.headD undef) fun i2=>br (decide (i2<(y0:Int))) (ix 34 (.slice x0 y0 z0) (i2) fun a4=>ldI .i64 3 (a4) fun n6=>cv (x1) [.int .i64 n6]<|fun v7=>unT v7 fun _=>self0 [.int .i64 (w64 (i2+1))])<|K (undef)) [.int .i64 0]
theorem f87 {x0:Option Addr} {y0 z0:Nat} {x1:Value} (h:s87 x0 y0 z0 x1 K cs):fn 87 [.slice x0 y0 z0,x1] K cs:=fO (an:=⟨[(1,[(8,.int .i64)])],[]⟩) Tryz.func87 h
@[reducible] def s88 (x0:Addr) (x1:Int) (K:Value→SP):SP:=
 fn 146 [.pointer (some x0),.int .i64 x1]<|fun v0=>unI .i64 v0 fun n1=>br (n1 != 0) (ldP 166 (x0.add 7) fun p3=>fn 147 [.pointer p3]<|fun v4=>unI .i64 v4 fun n5=>fn 86 [.pointer (some x0),.agg (.mk [.int .i64 3,.int .i64 n5,.int .i64 x1,.int .i64 0,.string (bs []),.int .i64 n1,.int .i64 0,.int .i64 0,.int .i64 0,.int .i64 0,.int .i64 0,.int .i64 0])]<|fun v6=>unT v6 fun _=>K (undef))<|ldP 166 (x0.add 7) fun p9=>fn 148 [.pointer p9]<|fun v10=>unT v10 fun t11=>ex (0<t11.length)<|unI .i64 (t11.getD 0 undef) fun i12=>ex (1<t11.length)<|unI .i64 (t11.getD 1 undef) fun i13=>ex (2<t11.length)<|unB (t11.getD 2 undef) fun _=>ldA 23 (x0.add 0) fun a16=>ldL 24 (x0.add 6) fun a18 n19 c20=>ix 24 (.slice a18 n19 c20) (x1) fun a22=>ldA 45 (a22) fun a24=>ldI .i64 2 (x0.add 12) fun n26=>fn 149 [.agg (.mk a16),.agg (.mk a24),.int .i64 n26]<|fun v27=>unT v27 fun t28=>ex (0<t28.length)<|unP (t28.getD 0 undef) fun p29=>ex (1<t28.length)<|unI .i64 (t28.getD 1 undef) fun _=>ldL 168 (x0.add 8) fun a32 n33 c34=>fn 150 []<|fun v35=>unP v35 fun p36=>stb (Instr.loadAt 168 (.pointer (some (x0.add 8)))) (.slice a32 n33 c34)<|box 197 (.agg (.mk [.int .i64 i12,.pointer p29,.pointer p36])) fun a38=>stb (Instr.loadAt 168 (.pointer (some (x0.add 8)))) (.slice a32 n33 c34)<|ix 168 (.slice a32 n33 c34) (i13) fun a40=>st 198 (a40) (.pointer (some a38))<|ldM 88 (x0.add 11) fun m43=>sm (do Instr.mapUpdate 88 (.map m43) (.int .i64 i12) (.int .i64 0);pure undef) fun _=>fn 86 [.pointer (some x0),.agg (.mk [.int .i64 2,.int .i64 i12,.int .i64 x1,.int .i64 0,.string (bs []),.int .i64 0,.int .i64 0,.int .i64 0,.int .i64 0,.int .i64 0,.int .i64 0,.int .i64 0])]<|fun v45=>unT v45 fun _=>fn 151 [.pointer (some x0),.int .i64 i13]<|fun v47=>unT v47 fun _=>K (undef)
theorem f88 {x0:Addr} {x1:Int} (h:s88 x0 x1 K cs):fn 88 [.pointer (some x0),.int .i64 x1] K cs:=fO (an:=⟨[],[]⟩) Tryz.func88 h
@[reducible] def s89 (x0:Option Addr) (y0:Nat) (z0:Nat) (x1:Value) (K:Value→SP):SP:=
 Lp (fun self0 l1=>unI .i64 (l1.headD undef) fun i2=>br (decide (i2<(y0:Int))) (ix 70 (.slice x0 y0 z0) (i2) fun a4=>ldA 85 (a4) fun a6=>new 85 fun a8=>st 85 (a8) (.agg (.mk a6))<|ldA 85 (a8) fun a11=>cv (x1) [.agg (.mk a11)]<|fun v12=>unT v12 fun _=>self0 [.int .i64 (w64 (i2+1))])<|K (undef)) [.int .i64 0]
theorem f89 {x0:Option Addr} {y0 z0:Nat} {x1:Value} (h:s89 x0 y0 z0 x1 K cs):fn 89 [.slice x0 y0 z0,x1] K cs:=fO (an:=⟨[(1,[(8,.int .i64)])],[]⟩) Tryz.func89 h
@[reducible] def s90 (x0:Addr) (x1:List Value) (K:Value→SP):SP:=
 box 85 (.agg (.mk x1)) fun a1=>ldI .i64 3 (a1.add 0) fun n3=>fn 152 [.pointer (some x0),.int .i64 n3]<|fun v4=>unT v4 fun t5=>ex (0<t5.length)<|unP (t5.getD 0 undef) fun p6=>ex (1<t5.length)<|unI .i64 (t5.getD 1 undef) fun _=>ex (2<t5.length)<|unB (t5.getD 2 undef) fun b8=>br (b8) (nn (p6) fun a9=>ldP 195 (a9.add 2) fun p11=>ldS 9 (a1.add 1) fun s13=>ldB 4 (a1.add 2) fun b15=>fn 153 [.pointer p11,.string s13,.bool b15]<|fun v16=>unB v16 fun _=>K (undef))<|K (undef)
theorem f90 {x0:Addr} {x1:List Value} (h:s90 x0 x1 K cs):fn 90 [.pointer (some x0),.agg (.mk x1)] K cs:=fO (an:=⟨[],[]⟩) Tryz.func90 h
@[reducible] def s91 (x0:Addr) (x1:List Value) (K:Value→SP):SP:=
 box 73 (.agg (.mk x1)) fun a1=>ldB 4 (a1.add 5) fun b3=>br (b3) (ldB 4 (x0.add 15) fun b5=>br (!b5) (ldI .i64 2 (x0.add 12) fun n7=>fn 154 [.pointer (some x0),.int .i64 n7,.bool true]<|fun v8=>unT v8 fun _=>K (undef))<|ldB 4 (a1.add 5) fun b11=>br (!b11) (ldI .i64 2 (a1.add 4) fun n13=>br (decide (n13>0)) (ldB 4 (x0.add 14) fun b15=>br (!b15) (ldI .i64 2 (x0.add 12) fun n17=>ldI .i64 2 (a1.add 4) fun n19=>fn 85 [.int .i64 n17,.int .i64 (w64 (n19-1))]<|fun v20=>unI .i64 v20 fun n21=>fn 154 [.pointer (some x0),.int .i64 n21,.bool false]<|fun v22=>unT v22 fun _=>K (undef))<|K (undef))<|K (undef))<|K (undef))<|ldB 4 (a1.add 5) fun b25=>br (!b25) (ldI .i64 2 (a1.add 4) fun n27=>br (decide (n27>0)) (ldB 4 (x0.add 14) fun b29=>br (!b29) (ldI .i64 2 (x0.add 12) fun n31=>ldI .i64 2 (a1.add 4) fun n33=>fn 85 [.int .i64 n31,.int .i64 (w64 (n33-1))]<|fun v34=>unI .i64 v34 fun n35=>fn 154 [.pointer (some x0),.int .i64 n35,.bool false]<|fun v36=>unT v36 fun _=>K (undef))<|K (undef))<|K (undef))<|K (undef)
theorem f91 {x0:Addr} {x1:List Value} (h:s91 x0 x1 K cs):fn 91 [.pointer (some x0),.agg (.mk x1)] K cs:=fO (an:=⟨[],[]⟩) Tryz.func91 h
@[reducible] def s92 (x0:Option Addr) (y0:Nat) (z0:Nat) (x1:Value) (K:Value→SP):SP:=
 Lp (fun self0 l1=>unI .i64 (l1.headD undef) fun i2=>br (decide (i2<(y0:Int))) (ix 71 (.slice x0 y0 z0) (i2) fun a4=>ldA 87 (a4) fun a6=>new 87 fun a8=>st 87 (a8) (.agg (.mk a6))<|ldA 87 (a8) fun a11=>cv (x1) [.agg (.mk a11)]<|fun v12=>unT v12 fun _=>self0 [.int .i64 (w64 (i2+1))])<|K (undef)) [.int .i64 0]
theorem f92 {x0:Option Addr} {y0 z0:Nat} {x1:Value} (h:s92 x0 y0 z0 x1 K cs):fn 92 [.slice x0 y0 z0,x1] K cs:=fO (an:=⟨[(1,[(8,.int .i64)])],[]⟩) Tryz.func92 h
@[reducible] def s93 (x0:Addr) (x1:List Value) (K:Value→SP):SP:=
 box 87 (.agg (.mk x1)) fun a1=>ldI .i64 3 (a1.add 0) fun n3=>fn 152 [.pointer (some x0),.int .i64 n3]<|fun v4=>unT v4 fun t5=>ex (0<t5.length)<|unP (t5.getD 0 undef) fun p6=>ex (1<t5.length)<|unI .i64 (t5.getD 1 undef) fun i7=>ex (2<t5.length)<|unB (t5.getD 2 undef) fun b8=>br (!b8) (K (undef))<|ldL 30 (x0.add 16) fun _ n11 _=>Jn (fun _=>Jn (fun _=>ldL 30 (x0.add 16) fun _ n19 _=>br (decide ((n19:Int)>(n11:Int))) (fn 151 [.pointer (some x0),.int .i64 i7]<|fun v21=>unT v21 fun _=>K (undef))<|K (undef))<|fun j16=>ldB 4 (a1.add 2) fun b24=>br (b24) (ldI .i64 3 (a1.add 3) fun n26=>fn 156 [.pointer (some x0),.pointer p6,.int .i64 n26]<|fun v27=>unT v27 fun _=>j16 [])<|j16 [])<|fun j14=>ldB 4 (a1.add 1) fun b30=>br (b30) (fn 155 [.pointer (some x0),.pointer p6]<|fun v31=>unT v31 fun _=>j14 [])<|j14 []
theorem f93 {x0:Addr} {x1:List Value} (h:s93 x0 x1 K cs):fn 93 [.pointer (some x0),.agg (.mk x1)] K cs:=fO (an:=⟨[],[(6,[]),(8,[])]⟩) Tryz.func93 h
@[reducible] def s94 (x0:Option Addr) (y0:Nat) (z0:Nat) (x1:Value) (K:Value→SP):SP:=
 Lp (fun self0 l1=>unI .i64 (l1.headD undef) fun i2=>br (decide (i2<(y0:Int))) (ix 75 (.slice x0 y0 z0) (i2) fun a4=>ldA 191 (a4) fun a6=>new 191 fun a8=>st 191 (a8) (.agg (.mk a6))<|ldA 191 (a8) fun a11=>cv (x1) [.agg (.mk a11)]<|fun v12=>unT v12 fun _=>self0 [.int .i64 (w64 (i2+1))])<|K (undef)) [.int .i64 0]
theorem f94 {x0:Option Addr} {y0 z0:Nat} {x1:Value} (h:s94 x0 y0 z0 x1 K cs):fn 94 [.slice x0 y0 z0,x1] K cs:=fO (an:=⟨[(1,[(8,.int .i64)])],[]⟩) Tryz.func94 h
@[reducible] def s96 (x0:Addr) (x1:List Value) (K:Value→SP):SP:=
 box 191 (.agg (.mk x1)) fun a1=>ldI .i64 3 (a1.add 1) fun n3=>fn 151 [.pointer (some x0),.int .i64 n3]<|fun v4=>unT v4 fun _=>K (undef)
theorem f96 {x0:Addr} {x1:List Value} (h:s96 x0 x1 K cs):fn 96 [.pointer (some x0),.agg (.mk x1)] K cs:=fO (an:=⟨[],[]⟩) Tryz.func96 h
@[reducible] def s97 (x0:Addr) (K:Value→SP):SP:=
 ldP 169 (x0.add 9) fun p1=>fn 160 [.pointer p1]<|fun v2=>unT v2 fun t3=>ex (0<t3.length)<|unI .i64 (t3.getD 0 undef) fun i4=>ex (1<t3.length)<|unB (t3.getD 1 undef) fun b5=>br (!b5) (K (.bool false))<|ldL 168 (x0.add 8) fun a7 n8 c9=>ix 168 (.slice a7 n8 c9) (i4) fun a11=>ldP 198 (a11) fun p13=>Jn (fun _=>ldP 169 (x0.add 9) fun p17=>nn (p13) fun a18=>ldP 194 (a18.add 1) fun p20=>ldI .i64 2 (x0.add 12) fun n22=>fn 161 [.pointer p20,.int .i64 n22]<|fun v23=>unB v23 fun b24=>stb (Instr.loadAt 169 (.pointer (some (x0.add 9)))) (.pointer p17)<|fn 165 [.pointer p17,.bool b24]<|fun v25=>unB v25 fun _=>ldP 171 (x0.add 10) fun p28=>nn (p13) fun a29=>ldP 194 (a29.add 1) fun p31=>fn 167 [.pointer p31]<|fun v32=>unI .i64 v32 fun n33=>stb (Instr.loadAt 171 (.pointer (some (x0.add 10)))) (.pointer p28)<|fn 166 [.pointer p28,.int .i64 i4,.int .i64 n33]<|fun v34=>unB v34 fun _=>K (.bool true))<|fun j15=>Lp (fun self36 _=>Jn (fun _=>fn 164 [.pointer (some x0),.int .i64 i4]<|fun v40=>unB v40 fun b41=>br (!b41) (K (.bool true))<|self36 [])<|fun j39=>nn (p13) fun a42=>ldP 194 (a42.add 1) fun p44=>ldI .i64 2 (x0.add 12) fun n46=>fn 161 [.pointer p44,.int .i64 n46]<|fun v47=>unB v47 fun b48=>br (b48) (ldP 169 (x0.add 9) fun p50=>nn (p13) fun a51=>ldP 194 (a51.add 1) fun p53=>fn 163 [.pointer p53]<|fun v54=>unI .i64 v54 fun n55=>stb (Instr.loadAt 169 (.pointer (some (x0.add 9)))) (.pointer p50)<|fn 162 [.pointer p50,.int .i64 n55]<|fun v56=>unB v56 fun b57=>br (b57) (j39 [])<|j15 [])<|j15 []) []
theorem f97 {x0:Addr} (h:s97 x0 K cs):fn 97 [.pointer (some x0)] K cs:=fO (an:=⟨[(5,[])],[(8,[]),(6,[])]⟩) Tryz.func97 h
@[reducible] def s101 (x0:Addr) (x1:Value) (K:Value→SP):SP:=
 ldP 166 (x0.add 7) fun p1=>fn 98 [.pointer p1]<|fun v2=>unL v2 fun a3 n4 c5=>Lp (fun self6 l7=>unL (l7.headD undef) fun a8 n9 c10=>unI .i64 (l7.tail.headD undef) fun i11=>br (decide (i11<(n4:Int))) (ix 34 (.slice a3 n4 c5) (i11) fun a13=>ldI .i64 3 (a13) fun n15=>fn 152 [.pointer (some x0),.int .i64 n15]<|fun v16=>unT v16 fun t17=>ex (0<t17.length)<|unP (t17.getD 0 undef) fun p18=>ex (1<t17.length)<|unI .i64 (t17.getD 1 undef) fun _=>ex (2<t17.length)<|unB (t17.getD 2 undef) fun _=>nn (p18) fun a21=>ldP 194 (a21.add 1) fun p23=>cv (x1) [.pointer p23]<|fun v24=>unI .i64 v24 fun n25=>br (decide (n25>0)) (sm (Instr.buildSlice 34 1 (Array.mk [(0,.int .i64 n15)]))<|fun v26=>unL v26 fun a27 n28 c29=>sm (Builtin.append_ (Array.mk [34,34]) 34 (Array.mk [.slice a8 n9 c10,.slice a27 n28 c29]))<|fun v30=>unL v30 fun a31 n32 c33=>self6 [.slice a31 n32 c33,.int .i64 (w64 (i11+1))])<|self6 [.slice a8 n9 c10,.int .i64 (w64 (i11+1))])<|K (.slice a8 n9 c10)) [.slice none 0 0,.int .i64 0]
theorem f101 {x0:Addr} {x1:Value} (h:s101 x0 x1 K cs):fn 101 [.pointer (some x0),x1] K cs:=fO (an:=⟨[(5,[(5,.sl),(19,.int .i64)])],[]⟩) Tryz.func101 h
@[reducible] def s103 (x0:Addr) (K:Value→SP):SP:=
 fn 104 [.pointer (some x0)]<|fun v0=>unS v0 fun s1=>K (.int .i64 (s1.size:Int))
theorem f103 {x0:Addr} (h:s103 x0 K cs):fn 103 [.pointer (some x0)] K cs:=fO (an:=⟨[],[]⟩) Tryz.func103 h
@[reducible] def s146 (x0:Addr) (x1:Int) (K:Value→SP):SP:=
 br (decide (x1<0)) (K (.int .i64 5))<|ldL 24 (x0.add 6) fun _ n2 _=>br (decide (x1≥(n2:Int))) (K (.int .i64 5))<|ldL 24 (x0.add 6) fun a5 n6 c7=>ix 24 (.slice a5 n6 c7) (x1) fun a9=>ldA 45 (a9) fun a11=>fn 118 [.agg (.mk a11)]<|fun v12=>unB v12 fun b13=>br (!b13) (K (.int .i64 2))<|ldB 4 (x0.add 14) fun b15=>br (b15) (K (.int .i64 8))<|ldP 166 (x0.add 7) fun p17=>fn 225 [.pointer p17]<|fun v18=>unI .i64 v18 fun n19=>br (decide (n19≥4096)) (K (.int .i64 4))<|ldP 166 (x0.add 7) fun p21=>fn 226 [.pointer p21]<|fun v22=>unI .i64 v22 fun n23=>br (n23 == 0) (K (.int .i64 7))<|K (.int .i64 0)
theorem f146 {x0:Addr} {x1:Int} (h:s146 x0 x1 K cs):fn 146 [.pointer (some x0),.int .i64 x1] K cs:=fO (an:=⟨[],[]⟩) Tryz.func146 h
@[reducible] def s151 (x0:Addr) (x1:Int) (K:Value→SP):SP:=
 ldL 168 (x0.add 8) fun a1 n2 c3=>ix 168 (.slice a1 n2 c3) (x1) fun a5=>ldP 198 (a5) fun p7=>ldP 171 (x0.add 10) fun p9=>nn (p7) fun a10=>ldP 194 (a10.add 1) fun p12=>fn 167 [.pointer p12]<|fun v13=>unI .i64 v13 fun n14=>stb (Instr.loadAt 171 (.pointer (some (x0.add 10)))) (.pointer p9)<|fn 166 [.pointer p9,.int .i64 x1,.int .i64 n14]<|fun v15=>unB v15 fun _=>nn (p7) fun a17=>ldP 194 (a17.add 1) fun p19=>ldI .i64 2 (x0.add 12) fun n21=>fn 161 [.pointer p19,.int .i64 n21]<|fun v22=>unB v22 fun b23=>br (b23) (ldP 169 (x0.add 9) fun p25=>fn 234 [.pointer p25,.int .i64 x1]<|fun v26=>unB v26 fun _=>K (undef))<|K (undef)
theorem f151 {x0:Addr} {x1:Int} (h:s151 x0 x1 K cs):fn 151 [.pointer (some x0),.int .i64 x1] K cs:=fO (an:=⟨[],[]⟩) Tryz.func151 h
@[reducible] def s152 (x0:Addr) (x1:Int) (K:Value→SP):SP:=
 ldP 166 (x0.add 7) fun p1=>fn 235 [.pointer p1,.int .i64 x1]<|fun v2=>unT v2 fun t3=>ex (0<t3.length)<|unI .i64 (t3.getD 0 undef) fun i4=>ex (1<t3.length)<|unB (t3.getD 1 undef) fun b5=>br (!b5) (K (.tuple (Array.mk [.pointer none,.int .i64 0,.bool false])))<|ldL 168 (x0.add 8) fun a7 n8 c9=>ix 168 (.slice a7 n8 c9) (i4) fun a11=>ldP 198 (a11) fun p13=>K (.tuple (Array.mk [.pointer p13,.int .i64 i4,.bool true]))
theorem f152 {x0:Addr} {x1:Int} (h:s152 x0 x1 K cs):fn 152 [.pointer (some x0),.int .i64 x1] K cs:=fO (an:=⟨[],[]⟩) Tryz.func152 h
@[reducible] def s154 (x0:Addr) (x1:Int) (x2:Bool) (K:Value→SP):SP:=
 st 4 (x0.add 14) (.bool true)<|fn 86 [.pointer (some x0),.agg (.mk [.int .i64 7,.int .i64 0,.int .i64 0,.int .i64 x1,.string (bs []),.int .i64 0,.int .i64 0,.int .i64 0,.int .i64 0,.int .i64 0,.int .i64 0,.int .i64 0])]<|fun v1=>unT v1 fun _=>ldP 166 (x0.add 7) fun p4=>fn 98 [.pointer p4]<|fun v5=>unL v5 fun a6 n7 c8=>Lp (fun self9 l10=>unI .i64 (l10.headD undef) fun i11=>br (decide (i11<(n7:Int))) (ix 34 (.slice a6 n7 c8) (i11) fun a13=>ldI .i64 3 (a13) fun n15=>fn 152 [.pointer (some x0),.int .i64 n15]<|fun v16=>unT v16 fun t17=>ex (0<t17.length)<|unP (t17.getD 0 undef) fun p18=>ex (1<t17.length)<|unI .i64 (t17.getD 1 undef) fun i19=>ex (2<t17.length)<|unB (t17.getD 2 undef) fun _=>nn (p18) fun a21=>ldP 194 (a21.add 1) fun p23=>fn 236 [.pointer p23,.int .i64 x1]<|fun v24=>unT v24 fun _=>br (!x2) (fn 151 [.pointer (some x0),.int .i64 i19]<|fun v26=>unT v26 fun _=>self9 [.int .i64 (w64 (i11+1))])<|fn 164 [.pointer (some x0),.int .i64 i19]<|fun v28=>unB v28 fun b29=>br (b29) (fn 151 [.pointer (some x0),.int .i64 i19]<|fun v30=>unT v30 fun _=>self9 [.int .i64 (w64 (i11+1))])<|self9 [.int .i64 (w64 (i11+1))])<|K (undef)) [.int .i64 0]
theorem f154 {x0:Addr} {x1:Int} {x2:Bool} (h:s154 x0 x1 x2 K cs):fn 154 [.pointer (some x0),.int .i64 x1,.bool x2] K cs:=fO (an:=⟨[(3,[(24,.int .i64)])],[]⟩) Tryz.func154 h
@[reducible] def s155 (x0:Addr) (x1:Option Addr) (K:Value→SP):SP:=
 nn (x1) fun a0=>ldP 194 (a0.add 1) fun p2=>fn 102 [.pointer p2]<|fun v3=>unI .i64 v3 fun n4=>br (n4 == 0) (K (undef))<|Jn (fun _=>nn (x1) fun a7=>ldP 195 (a7.add 2) fun p9=>fn 238 [.pointer p9]<|fun v10=>unB v10 fun b11=>br (b11) (nn (x1) fun a12=>ldP 194 (a12.add 1) fun p14=>fn 239 [.pointer p14]<|fun v15=>unB v15 fun b16=>br (b16) (nn (x1) fun a17=>ldI .i64 3 (a17.add 0) fun n19=>fn 86 [.pointer (some x0),.agg (.mk [.int .i64 5,.int .i64 n19,.int .i64 0,.int .i64 0,.string (bs []),.int .i64 0,.int .i64 0,.int .i64 0,.int .i64 0,.int .i64 0,.int .i64 0,.int .i64 0])]<|fun v20=>unT v20 fun _=>K (undef))<|K (undef))<|K (undef))<|fun j6=>nn (x1) fun a22=>ldP 195 (a22.add 2) fun p24=>fn 181 [.pointer p24,.int .i64 n4]<|fun v25=>unS v25 fun s26=>br (!s26.toList == (bs []).toList) (nn (x1) fun a27=>ldP 194 (a27.add 1) fun p29=>fn 237 [.pointer p29,.string s26]<|fun v30=>unI .i64 v30 fun _=>nn (x1) fun a32=>ldI .i64 3 (a32.add 0) fun n34=>fn 86 [.pointer (some x0),.agg (.mk [.int .i64 4,.int .i64 n34,.int .i64 (s26.size:Int),.int .i64 0,.string s26,.int .i64 0,.int .i64 0,.int .i64 0,.int .i64 0,.int .i64 0,.int .i64 0,.int .i64 0])]<|fun v35=>unT v35 fun _=>j6 [])<|j6 []
theorem f155 {x0:Addr} {x1:Option Addr} (h:s155 x0 x1 K cs):fn 155 [.pointer (some x0),.pointer x1] K cs:=fO (an:=⟨[],[(6,[])]⟩) Tryz.func155 h
@[reducible] def s156 (x0:Addr) (x1:Option Addr) (x2:Int) (K:Value→SP):SP:=
 nn (x1) fun a0=>ldP 194 (a0.add 1) fun p2=>fn 240 [.pointer p2,.int .i64 x2]<|fun v3=>unS v3 fun s4=>br (!s4.toList == (bs []).toList) (nn (x1) fun a5=>ldI .i64 3 (a5.add 0) fun n7=>fn 86 [.pointer (some x0),.agg (.mk [.int .i64 6,.int .i64 n7,.int .i64 (s4.size:Int),.int .i64 0,.string s4,.int .i64 0,.int .i64 0,.int .i64 0,.int .i64 0,.int .i64 0,.int .i64 0,.int .i64 0])]<|fun v8=>unT v8 fun _=>K (undef))<|K (undef)
theorem f156 {x0:Addr} {x1:Option Addr} {x2:Int} (h:s156 x0 x1 x2 K cs):fn 156 [.pointer (some x0),.pointer x1,.int .i64 x2] K cs:=fO (an:=⟨[],[]⟩) Tryz.func156 h
@[reducible] def s164 (x0:Addr) (x1:Int) (K:Value→SP):SP:=
 ldL 168 (x0.add 8) fun a1 n2 c3=>ix 168 (.slice a1 n2 c3) (x1) fun a5=>ldP 198 (a5) fun p7=>Jn (fun l8=>unQ (l8.headD undef) fun q10=>unB (l8.tail.headD undef) fun b11=>Jn (fun _=>ldM 88 (x0.add 11) fun m15=>nn (p7) fun a16=>ldI .i64 3 (a16.add 0) fun n18=>nn (p7) fun a19=>ldP 194 (a19.add 1) fun p21=>fn 254 [.pointer p21]<|fun v22=>unI .i64 v22 fun n23=>stb (Instr.loadAt 3 (.pointer (some (a16.add 0)))) (.int .i64 n18)<|stb (Instr.loadAt 88 (.pointer (some (x0.add 11)))) (.map m15)<|sm (do Instr.mapUpdate 88 (.map m15) (.int .i64 n18) (.int .i64 n23);pure undef) fun _=>nn (p7) fun a25=>ldP 194 (a25.add 1) fun p27=>fn 254 [.pointer p27]<|fun v28=>unI .i64 v28 fun n29=>br (n29 == 0) (K (.bool true))<|nn (p7) fun a30=>ldP 195 (a30.add 2) fun p32=>fn 255 [.pointer p32]<|fun v33=>unI .i64 v33 fun _=>ldP 166 (x0.add 7) fun p36=>nn (p7) fun a37=>ldI .i64 3 (a37.add 0) fun n39=>fn 256 [.pointer p36,.int .i64 n39]<|fun v40=>unB v40 fun _=>ldL 168 (x0.add 8) fun a43 n44 c45=>ix 168 (.slice a43 n44 c45) (x1) fun a47=>st 198 (a47) (.pointer none)<|ldP 169 (x0.add 9) fun p50=>fn 257 [.pointer p50,.int .i64 x1]<|fun v51=>unB v51 fun _=>ldP 171 (x0.add 10) fun p54=>fn 258 [.pointer p54,.int .i64 x1]<|fun v55=>unB v55 fun _=>K (.bool false))<|fun j13=>br (b11) (nn (p7) fun a57=>ldI .i64 3 (a57.add 0) fun n59=>ldA 99 (q10) fun a61=>qy (Instr.build 101 (Array.mk [(0,.int .i64 8),(1,.int .i64 n59),(6,.agg (.mk a61))]))<|fun v62=>unA v62 fun a63=>fn 86 [.pointer (some x0),.agg (.mk a63)]<|fun v64=>unT v64 fun _=>j13 [])<|j13 [])<|fun j9=>nn (p7) fun a66=>ldP 194 (a66.add 1) fun p68=>ldI .i64 2 (x0.add 12) fun n70=>an (fn 253 [.pointer p68,.int .i64 n70]<|fun v71=>unT v71 fun t72=>ex (0<t72.length)<|unA (t72.getD 0 undef) fun a73=>ex (1<t72.length)<|unB (t72.getD 1 undef) fun b74=>new 99 fun a76=>st 99 (a76) (.agg (.mk a73))<|j9 [.pointer (some a76),.bool b74])<|new 99 fun a79=>stb (Instr.loadAt 2 (.pointer (some (x0.add 12)))) (.int .i64 n70)<|stb (Instr.loadAt 194 (.pointer (some (a66.add 1)))) (.pointer p68)<|fn 253 [.pointer p68,.int .i64 n70]<|fun v80=>unT v80 fun t81=>ex (0<t81.length)<|unA (t81.getD 0 undef) fun a82=>ex (1<t81.length)<|unB (t81.getD 1 undef) fun b83=>st 99 (a79) (.agg (.mk a82))<|j9 [.pointer (some a79),.bool b83]
theorem f164 {x0:Addr} {x1:Int} (h:s164 x0 x1 K cs):fn 164 [.pointer (some x0),.int .i64 x1] K cs:=fO (an:=⟨[],[(3,[(6,.adr),(7,.bool)]),(5,[])]⟩) Tryz.func164 h
@[reducible] def s34 (x0:List Value) (x1:Option Addr) (y1:Nat) (z1:Nat) (x2:Option Addr) (y2:Nat) (z2:Nat) (K:Value→SP):SP:=
 box 23 (.agg (.mk x0)) fun a1=>new 29 fun a3=>ldA 23 (a1) fun a5=>fn 26 [.agg (.mk a5),.slice x1 y1 z1]<|fun v6=>unT v6 fun t7=>ex (0<t7.length)<|unP (t7.getD 0 undef) fun p8=>ex (1<t7.length)<|unI .i64 (t7.getD 1 undef) fun i9=>br (i9 != 0) (st 29 (a3) (.agg (.mk [.int .i64 0,.int .i64 0,.int .i64 0]))<|qy (loadVar 29 a3)<|fun v11=>unA v11 fun a12=>K (.tuple (Array.mk [.agg (.mk a12),.slice none 0 0,.int .i64 i9])))<|sm (Instr.makeMap 202 none)<|fun v13=>unM v13 fun m14=>sm (Instr.makeMap 203 none)<|fun v15=>unM v15 fun m16=>box 207 (.agg (.mk [.pointer p8,.map m14,.map m16,.map none,.int .i64 0,.map none,.int .i64 0])) fun a18=>Lp (fun self19 l20=>unL (l20.headD undef) fun a21 n22 c23=>unI .i64 (l20.tail.headD undef) fun i24=>br (decide (i24<(y2:Int))) (ix 25 (.slice x2 y2 z2) (i24) fun a26=>ldA 73 (a26) fun a28=>new 73 fun a30=>st 73 (a30) (.agg (.mk a28))<|ldA 73 (a30) fun a33=>fn 105 [.pointer (some a18),.agg (.mk a33)]<|fun v34=>unL v34 fun a35 n36 c37=>sm (Builtin.append_ (Array.mk [30,30]) 30 (Array.mk [.slice a21 n22 c23,.slice a35 n36 c37]))<|fun v38=>unL v38 fun a39 n40 c41=>self19 [.slice a39 n40 c41,.int .i64 (w64 (i24+1))])<|ldI .i64 3 ((a18.add 3).add 1) fun n43=>ldI .i64 3 ((a18.add 5).add 1) fun n45=>fn 106 [.slice a21 n22 c23]<|fun v46=>unI .i64 v46 fun n47=>stb (Instr.loadAt 3 (.pointer (some ((a18.add 5).add 1)))) (.int .i64 n45)<|stb (Instr.loadAt 3 (.pointer (some ((a18.add 3).add 1)))) (.int .i64 n43)<|st 29 (a3) (.agg (.mk [.int .i64 n47,.int .i64 (w64 (n43+1)),.int .i64 (w64 (n45+1))]))<|qy (loadVar 29 a3)<|fun v49=>unA v49 fun a50=>K (.tuple (Array.mk [.agg (.mk a50),.slice a21 n22 c23,.int .i64 0]))) [.slice none 0 0,.int .i64 0]
theorem f34 {x0:List Value} {x1:Option Addr} {y1 z1:Nat} {x2:Option Addr} {y2 z2:Nat} (h:s34 x0 x1 y1 z1 x2 y2 z2 K cs):fn 34 [.agg (.mk x0),.slice x1 y1 z1,.slice x2 y2 z2] K cs:=fO (an:=⟨[(7,[(9,.sl),(32,.int .i64)])],[]⟩) Tryz.func34 h
@[reducible] def s105 (x0:Addr) (x1:List Value) (K:Value→SP):SP:=
 box 73 (.agg (.mk x1)) fun a1=>ldP 65 (x0.add 0) fun p3=>ldP 65 (x0.add 0) fun p5=>ldP 65 (x0.add 0) fun p7=>fn 29 [.pointer p3]<|fun v8=>unL v8 fun a9 n10 c11=>stb (Instr.loadAt 65 (.pointer (some (x0.add 0)))) (.pointer p7)<|stb (Instr.loadAt 65 (.pointer (some (x0.add 0)))) (.pointer p5)<|fn 32 [.pointer p5]<|fun v12=>unL v12 fun a13 n14 c15=>stb (Instr.loadAt 65 (.pointer (some (x0.add 0)))) (.pointer p7)<|fn 33 [.pointer p7]<|fun v16=>unL v16 fun a17 n18 c19=>ldP 65 (x0.add 0) fun p21=>ldA 73 (a1) fun a23=>fn 28 [.pointer p21,.agg (.mk a23)]<|fun v24=>unL v24 fun a25 n26 c27=>ldA 73 (a1) fun a29=>fn 177 [.pointer (some x0),.agg (.mk a29),.slice a9 n10 c11,.slice a25 n26 c27]<|fun v30=>unL v30 fun a31 n32 c33=>qy (Instr.sliceAt 34 (.slice a31 n32 c33) (some (.int .i64 (n10:Int))) none none)<|fun v34=>unL v34 fun a35 n36 c37=>sm (Builtin.append_ (Array.mk [34,34]) 34 (Array.mk [.slice a13 n14 c15,.slice a35 n36 c37]))<|fun v38=>unL v38 fun a39 n40 c41=>Lp (fun self42 l43=>unL (l43.headD undef) fun a44 n45 c46=>unI .i64 (l43.tail.headD undef) fun i47=>br (decide (i47<(n40:Int))) (ix 34 (.slice a39 n40 c41) (i47) fun a49=>ldI .i64 3 (a49) fun n51=>ldM 202 (x0.add 1) fun m53=>qy (Instr.lookup 202 (.map m53) (.int .i64 n51) false)<|fun v54=>unP v54 fun p55=>fn 178 [.pointer p55]<|fun v56=>unI .i64 v56 fun n57=>br (decide (n57>0)) (sm (Instr.buildSlice 34 1 (Array.mk [(0,.int .i64 n51)]))<|fun v58=>unL v58 fun a59 n60 c61=>sm (Builtin.append_ (Array.mk [34,34]) 34 (Array.mk [.slice a44 n45 c46,.slice a59 n60 c61]))<|fun v62=>unL v62 fun a63 n64 c65=>self42 [.slice a63 n64 c65,.int .i64 (w64 (i47+1))])<|ldM 202 (x0.add 1) fun m67=>qy (Instr.lookup 202 (.map m67) (.int .i64 n51) false)<|fun v68=>unP v68 fun p69=>fn 179 [.pointer p69]<|fun v70=>unB v70 fun b71=>br (b71) (ldM 203 (x0.add 2) fun m73=>qy (Instr.lookup 203 (.map m73) (.int .i64 n51) false)<|fun v74=>unB v74 fun b75=>br (!b75) (sm (Instr.buildSlice 34 1 (Array.mk [(0,.int .i64 n51)]))<|fun v76=>unL v76 fun a77 n78 c79=>sm (Builtin.append_ (Array.mk [34,34]) 34 (Array.mk [.slice a44 n45 c46,.slice a77 n78 c79]))<|fun v80=>unL v80 fun a81 n82 c83=>self42 [.slice a81 n82 c83,.int .i64 (w64 (i47+1))])<|self42 [.slice a44 n45 c46,.int .i64 (w64 (i47+1))])<|self42 [.slice a44 n45 c46,.int .i64 (w64 (i47+1))])<|Lp (fun self84 l85=>unL (l85.headD undef) fun a86 n87 c88=>unL (l85.tail.headD undef) fun a89 n90 c91=>unI .i64 (l85.tail.tail.headD undef) fun i92=>br (decide (i92<(n26:Int))) (ix 30 (.slice a25 n26 c27) (i92) fun a94=>ldA 101 (a94) fun a96=>new 101 fun a98=>st 101 (a98) (.agg (.mk a96))<|ldI .i64 3 (a98.add 0) fun n101=>br (n101 == 4) (ldM 202 (x0.add 1) fun m103=>ldI .i64 3 (a98.add 1) fun n105=>qy (Instr.lookup 202 (.map m103) (.int .i64 n105) false)<|fun v106=>unP v106 fun p107=>ldI .i64 3 (a98.add 2) fun n109=>fn 181 [.pointer p107,.int .i64 n109]<|fun v110=>unS v110 fun _=>fn 182 [.slice a89 n90 c91,.func (Fn.func 180) (Array.mk []) (Array.mk [.pointer (some a98)])]<|fun v112=>unL v112 fun a113 n114 c115=>self84 [.slice a86 n87 c88,.slice a113 n114 c115,.int .i64 (w64 (i92+1))])<|br (n101 == 5) (ldM 203 (x0.add 2) fun m117=>ldI .i64 3 (a98.add 1) fun n119=>sm (do Instr.mapUpdate 203 (.map m117) (.int .i64 n119) (.bool true);pure undef) fun _=>fn 182 [.slice a89 n90 c91,.func (Fn.func 180) (Array.mk []) (Array.mk [.pointer (some a98)])]<|fun v121=>unL v121 fun a122 n123 c124=>self84 [.slice a86 n87 c88,.slice a122 n123 c124,.int .i64 (w64 (i92+1))])<|br (n101 == 6) (fn 182 [.slice a86 n87 c88,.func (Fn.func 180) (Array.mk []) (Array.mk [.pointer (some a98)])]<|fun v125=>unL v125 fun a126 n127 c128=>self84 [.slice a126 n127 c128,.slice a89 n90 c91,.int .i64 (w64 (i92+1))])<|self84 [.slice a86 n87 c88,.slice a89 n90 c91,.int .i64 (w64 (i92+1))])<|ldB 4 (a1.add 5) fun b130=>br (b130) (fn 183 [.pointer (some (x0.add 3)),.slice none 0 0]<|fun v131=>unT v131 fun _=>fn 183 [.pointer (some (x0.add 5)),.slice none 0 0]<|fun v133=>unT v133 fun _=>K (.slice a25 n26 c27))<|fn 183 [.pointer (some (x0.add 3)),.slice a89 n90 c91]<|fun v135=>unT v135 fun _=>fn 183 [.pointer (some (x0.add 5)),.slice a86 n87 c88]<|fun v137=>unT v137 fun _=>K (.slice a25 n26 c27)) [.slice a17 n18 c19,.slice a44 n45 c46,.int .i64 0]) [.slice none 0 0,.int .i64 0]
theorem f105 {x0:Addr} {x1:List Value} (h:s105 x0 x1 K cs):fn 105 [.pointer (some x0),.agg (.mk x1)] K cs:=fO (an:=⟨[(8,[(10,.sl),(51,.int .i64)]),(14,[(7,.sl),(10,.sl),(88,.int .i64)])],[]⟩) Tryz.func105 h
@[reducible] def s106 (x0:Option Addr) (y0:Nat) (z0:Nat) (K:Value→SP):SP:=
 Lp (fun self0 l1=>unI .i64 (l1.headD undef) fun i2=>unI .i64 (l1.tail.headD undef) fun i3=>unI .i64 (l1.tail.tail.headD undef) fun i4=>br (decide (i4<(y0:Int))) (ix 30 (.slice x0 y0 z0) (i4) fun a6=>ldA 101 (a6) fun a8=>new 101 fun a10=>st 101 (a10) (.agg (.mk a8))<|ldI .i64 3 (a10.add 0) fun n13=>br (n13 == 1) (ldI .i64 2 (a10.add 3) fun n15=>fn 184 [.int .i64 i3,.int .i64 n15]<|fun v16=>unI .i64 v16 fun n17=>ldI .i64 2 (a10.add 3) fun n19=>self0 [.int .i64 (if n17>i2 then n17 else i2),.int .i64 n19,.int .i64 (w64 (i4+1))])<|self0 [.int .i64 i2,.int .i64 i3,.int .i64 (w64 (i4+1))])<|K (.int .i64 i2)) [.int .i64 1,.int .i64 0,.int .i64 0]
theorem f106 {x0:Option Addr} {y0 z0:Nat} (h:s106 x0 y0 z0 K cs):fn 106 [.slice x0 y0 z0] K cs:=fO (an:=⟨[(3,[(3,.int .i64),(4,.int .i64),(9,.int .i64)])],[]⟩) Tryz.func106 h
@[reducible] def s177 (x0:Addr) (x1:List Value) (x2:Option Addr) (y2:Nat) (z2:Nat) (x3:Option Addr) (y3:Nat) (z3:Nat) (K:Value→SP):SP:=
 box 73 (.agg (.mk x1)) fun a1=>Lp (fun self2 l3=>unL (l3.headD undef) fun a4 n5 c6=>unI .i64 (l3.tail.headD undef) fun i7=>br (decide (i7<(y3:Int))) (ix 30 (.slice x3 y3 z3) (i7) fun a9=>ldA 101 (a9) fun a11=>new 101 fun a13=>st 101 (a13) (.agg (.mk a11))<|ldI .i64 3 (a13.add 0) fun n16=>br (n16 == 2) (ldM 202 (x0.add 1) fun m18=>ldI .i64 3 (a13.add 1) fun n20=>fn 150 []<|fun v21=>unP v21 fun p22=>stb (Instr.loadAt 3 (.pointer (some (a13.add 1)))) (.int .i64 n20)<|stb (Instr.loadAt 202 (.pointer (some (x0.add 1)))) (.map m18)<|sm (do Instr.mapUpdate 202 (.map m18) (.int .i64 n20) (.pointer p22);pure undef) fun _=>ldI .i64 3 (a13.add 1) fun n25=>sm (Instr.buildSlice 34 1 (Array.mk [(0,.int .i64 n25)]))<|fun v26=>unL v26 fun a27 n28 c29=>sm (Builtin.append_ (Array.mk [34,34]) 34 (Array.mk [.slice a4 n5 c6,.slice a27 n28 c29]))<|fun v30=>unL v30 fun a31 n32 c33=>self2 [.slice a31 n32 c33,.int .i64 (w64 (i7+1))])<|self2 [.slice a4 n5 c6,.int .i64 (w64 (i7+1))])<|ldL 70 (a1.add 2) fun a35 n36 c37=>Lp (fun self38 l39=>unI .i64 (l39.headD undef) fun i40=>br (decide (i40<(n36:Int))) (ix 70 (.slice a35 n36 c37) (i40) fun a42=>ldA 85 (a42) fun a44=>new 85 fun a46=>st 85 (a46) (.agg (.mk a44))<|ldI .i64 3 (a46.add 0) fun n49=>fn 270 [.slice a4 n5 c6,.int .i64 n49]<|fun v50=>unB v50 fun b51=>br (b51) (ldM 202 (x0.add 1) fun m53=>ldI .i64 3 (a46.add 0) fun n55=>qy (Instr.lookup 202 (.map m53) (.int .i64 n55) false)<|fun v56=>unP v56 fun p57=>ldS 9 (a46.add 1) fun s59=>ldB 4 (a46.add 2) fun b61=>fn 153 [.pointer p57,.string s59,.bool b61]<|fun v62=>unB v62 fun _=>self38 [.int .i64 (w64 (i40+1))])<|self38 [.int .i64 (w64 (i40+1))])<|K (.slice a4 n5 c6)) [.int .i64 0]) [.slice x2 y2 z2,.int .i64 0]
theorem f177 {x0:Addr} {x1:List Value} {x2:Option Addr} {y2 z2:Nat} {x3:Option Addr} {y3 z3:Nat} (h:s177 x0 x1 x2 y2 z2 x3 y3 z3 K cs):fn 177 [.pointer (some x0),.agg (.mk x1),.slice x2 y2 z2,.slice x3 y3 z3] K cs:=fO (an:=⟨[(2,[(2,.sl),(15,.int .i64)]),(9,[(38,.int .i64)])],[]⟩) Tryz.func177 h
@[reducible] def s180 (x0:Int) (x1:Addr) (K:Value→SP):SP:=
 ldI .i64 3 (x1.add 1) fun n1=>K (.bool (x0 == n1))
theorem f180 {x0:Int} {x1:Addr} (h:s180 x0 x1 K cs):fn 180 [.int .i64 x0,.pointer (some x1)] K cs:=fO (an:=⟨[],[]⟩) Tryz.func180 h
@[reducible] def s183 (x0:Addr) (x1:Option Addr) (y1:Nat) (z1:Nat) (K:Value→SP):SP:=
 sm (Instr.makeMap 88 none)<|fun v0=>unM v0 fun m1=>Lp (fun self2 l3=>unI .i64 (l3.headD undef) fun i4=>br (decide (i4<(y1:Int))) (ix 34 (.slice x1 y1 z1) (i4) fun a6=>ldI .i64 3 (a6) fun n8=>ldM 88 (x0.add 0) fun m10=>qy (Instr.lookup 88 (.map m10) (.int .i64 n8) false)<|fun v11=>unI .i64 v11 fun n12=>sm (do Instr.mapUpdate 88 (.map m1) (.int .i64 n8) (.int .i64 (w64 (n12+1)));pure undef) fun _=>ldI .i64 3 (x0.add 1) fun n15=>qy (Instr.lookup 88 (.map m1) (.int .i64 n8) false)<|fun v16=>unI .i64 v16 fun n17=>st 3 (x0.add 1) (.int .i64 (if n17>n15 then n17 else n15))<|self2 [.int .i64 (w64 (i4+1))])<|st 88 (x0.add 0) (.map m1)<|K (undef)) [.int .i64 0]
theorem f183 {x0:Addr} {x1:Option Addr} {y1 z1:Nat} (h:s183 x0 x1 y1 z1 K cs):fn 183 [.pointer (some x0),.slice x1 y1 z1] K cs:=fO (an:=⟨[(2,[(10,.int .i64)])],[]⟩) Tryz.func183 h
@[reducible] def s184 (x0:Int) (x1:Int) (K:Value→SP):SP:=
 K (.int .i64 (if 0>w64 ((if 0>x1 then 0 else x1)-if 0>x0 then 0 else x0)then 0 else w64 ((if 0>x1 then 0 else x1)-if 0>x0 then 0 else x0)))
theorem f184 {x0 x1:Int} (h:s184 x0 x1 K cs):fn 184 [.int .i64 x0,.int .i64 x1] K cs:=fO (an:=⟨[],[]⟩) Tryz.func184 h
@[reducible] def s36 (x0:List Value) (x1:Option Addr) (y1:Nat) (z1:Nat) (x2:Option Addr) (y2:Nat) (z2:Nat) (K:Value→SP):SP:=
 box 23 (.agg (.mk x0)) fun a1=>ldA 23 (a1) fun a3=>fn 107 [.agg (.mk a3),.slice x1 y1 z1,.slice x2 y2 z2]<|fun v4=>unT v4 fun t5=>ex (0<t5.length)<|unL (t5.getD 0 undef) fun a6 n7 c8=>ex (1<t5.length)<|unI .i64 (t5.getD 1 undef) fun i9=>K (.tuple (Array.mk [.slice a6 n7 c8,.int .i64 i9]))
theorem f36 {x0:List Value} {x1:Option Addr} {y1 z1:Nat} {x2:Option Addr} {y2 z2:Nat} (h:s36 x0 x1 y1 z1 x2 y2 z2 K cs):fn 36 [.agg (.mk x0),.slice x1 y1 z1,.slice x2 y2 z2] K cs:=fO (an:=⟨[],[]⟩) Tryz.func36 h
@[reducible] def s39 (x0:Option Addr) (y0:Nat) (z0:Nat) (K:Value→SP):SP:=
 sm (Instr.makeMap 88 none)<|fun v0=>unM v0 fun m1=>Lp (fun self2 l3=>unB (l3.headD undef) fun b4=>unI .i64 (l3.tail.headD undef) fun i5=>br (decide (i5<(y0:Int))) (ix 30 (.slice x0 y0 z0) (i5) fun a7=>ldA 101 (a7) fun a9=>new 101 fun a11=>st 101 (a11) (.agg (.mk a9))<|ldI .i64 3 (a11.add 0) fun n14=>br (n14 == 2) (ldI .i64 3 (a11.add 1) fun n16=>qy (Instr.lookup 88 (.map m1) (.int .i64 n16) true)<|fun v17=>unT v17 fun t18=>ex (0<t18.length)<|unI .i64 (t18.getD 0 undef) fun _=>ex (1<t18.length)<|unB (t18.getD 1 undef) fun b20=>br (!b20) (ldI .i64 3 (a11.add 1) fun n22=>sm (do Instr.mapUpdate 88 (.map m1) (.int .i64 n22) (.int .i64 0);pure undef) fun _=>self2 [.bool b4,.int .i64 (w64 (i5+1))])<|self2 [.bool b4,.int .i64 (w64 (i5+1))])<|br (n14 == 9) (self2 [.bool true,.int .i64 (w64 (i5+1))])<|self2 [.bool b4,.int .i64 (w64 (i5+1))])<|Lp (fun self24 l25=>unI .i64 (l25.headD undef) fun i26=>br (decide (i26<(y0:Int))) (ix 30 (.slice x0 y0 z0) (i26) fun a28=>ldA 101 (a28) fun a30=>new 101 fun a32=>st 101 (a32) (.agg (.mk a30))<|ldI .i64 3 (a32.add 1) fun n35=>qy (Instr.lookup 88 (.map m1) (.int .i64 n35) true)<|fun v36=>unT v36 fun t37=>ex (0<t37.length)<|unI .i64 (t37.getD 0 undef) fun _=>ex (1<t37.length)<|unB (t37.getD 1 undef) fun b39=>br (b39) (ldI .i64 3 (a32.add 0) fun n41=>br (n41 == 8) (ldI .i64 3 (a32.add 1) fun n43=>ldI .i64 3 ((a32.add 6).add 5) fun n45=>sm (do Instr.mapUpdate 88 (.map m1) (.int .i64 n43) (.int .i64 n45);pure undef) fun _=>self24 [.int .i64 (w64 (i26+1))])<|self24 [.int .i64 (w64 (i26+1))])<|self24 [.int .i64 (w64 (i26+1))])<|K (.tuple (Array.mk [.map m1,.bool b4]))) [.int .i64 0]) [.bool false,.int .i64 0]
theorem f39 {x0:Option Addr} {y0 z0:Nat} (h:s39 x0 y0 z0 K cs):fn 39 [.slice x0 y0 z0] K cs:=fO (an:=⟨[(3,[(5,.bool),(17,.int .i64)]),(14,[(42,.int .i64)])],[]⟩) Tryz.func39 h
@[reducible] def s84 (x0:Option Addr) (y0:Nat) (z0:Nat) (K:Value→SP):SP:=
 fn 144 [.slice x0 y0 z0]<|fun v0=>unL v0 fun a1 n2 c3=>K (.slice a1 n2 c3)
theorem f84 {x0:Option Addr} {y0 z0:Nat} (h:s84 x0 y0 z0 K cs):fn 84 [.slice x0 y0 z0] K cs:=fO (an:=⟨[],[]⟩) Tryz.func84 h
@[reducible] def s107 (x0:List Value) (x1:Option Addr) (y1:Nat) (z1:Nat) (x2:Option Addr) (y2:Nat) (z2:Nat) (K:Value→SP):SP:=
 box 23 (.agg (.mk x0)) fun a1=>ldA 23 (a1) fun a3=>fn 26 [.agg (.mk a3),.slice x1 y1 z1]<|fun v4=>unT v4 fun t5=>ex (0<t5.length)<|unP (t5.getD 0 undef) fun p6=>ex (1<t5.length)<|unI .i64 (t5.getD 1 undef) fun i7=>br (i7 != 0) (K (.tuple (Array.mk [.slice none 0 0,.int .i64 i7])))<|Lp (fun self8 l9=>unL (l9.headD undef) fun a10 n11 c12=>unI .i64 (l9.tail.headD undef) fun i13=>br (decide (i13<(y2:Int))) (ix 25 (.slice x2 y2 z2) (i13) fun a15=>ldA 73 (a15) fun a17=>new 73 fun a19=>st 73 (a19) (.agg (.mk a17))<|ldA 73 (a19) fun a22=>fn 28 [.pointer p6,.agg (.mk a22)]<|fun v23=>unL v23 fun a24 n25 c26=>sm (Builtin.append_ (Array.mk [30,30]) 30 (Array.mk [.slice a10 n11 c12,.slice a24 n25 c26]))<|fun v27=>unL v27 fun a28 n29 c30=>self8 [.slice a28 n29 c30,.int .i64 (w64 (i13+1))])<|K (.tuple (Array.mk [.slice a10 n11 c12,.int .i64 0]))) [.slice none 0 0,.int .i64 0]
theorem f107 {x0:List Value} {x1:Option Addr} {y1 z1:Nat} {x2:Option Addr} {y2 z2:Nat} (h:s107 x0 x1 y1 z1 x2 y2 z2 K cs):fn 107 [.agg (.mk x0),.slice x1 y1 z1,.slice x2 y2 z2] K cs:=fO (an:=⟨[(6,[(8,.sl),(24,.int .i64)])],[]⟩) Tryz.func107 h
@[reducible] def s144 (x0:Option Addr) (y0:Nat) (z0:Nat) (K:Value→SP):SP:=
 Lp (fun self0 l1=>unL (l1.headD undef) fun a2 n3 c4=>unI .i64 (l1.tail.headD undef) fun i5=>br (decide (i5<(y0:Int))) (ix 176 (.slice x0 y0 z0) (i5) fun a7=>ldA 276 (a7) fun a9=>new 276 fun a11=>st 276 (a11) (.agg (.mk a9))<|Jn (fun _=>ldA 45 (a11.add 0) fun a16=>sm (Instr.buildSlice 24 1 (Array.mk [(0,.agg (.mk a16))]))<|fun v17=>unL v17 fun a18 n19 c20=>sm (Builtin.append_ (Array.mk [24,24]) 24 (Array.mk [.slice a2 n3 c4,.slice a18 n19 c20]))<|fun v21=>unL v21 fun a22 n23 c24=>self0 [.slice a22 n23 c24,.int .i64 (w64 (i5+1))])<|fun j14=>ldI .i64 57 (a11.add 7) fun n26=>br (n26 != 0) (st 45 (a11.add 0) (.agg (.mk [.string (bs []),.int .i64 0,.int .i64 0,.slice none 0 0]))<|j14 [])<|j14 [])<|K (.slice a2 n3 c4)) [.slice none 0 0,.int .i64 0]
theorem f144 {x0:Option Addr} {y0 z0:Nat} (h:s144 x0 y0 z0 K cs):fn 144 [.slice x0 y0 z0] K cs:=fO (an:=⟨[(3,[(3,.sl),(8,.int .i64)])],[(7,[])]⟩) Tryz.func144 h
end Go.Proofs.YtbjlfobjngogkaaGreatDoor
namespace Go.Proofs.YtbjlfobjngogkaaGreatDoor
open Go
set_option synthInstance.maxSize 100000
set_option synthInstance.maxHeartbeats 1000000
set_option maxRecDepth 100000
theorem app_zero {cs:St} {t ty e sz by_ n c c2:Nat} {a a2:Option Addr} {K:Value→SP} (p:SlcT t e sz by_) (hn:n≤c) (h:K (.slice a n c) cs):
  sm (Builtin.append_ ⟨[t,t]⟩ ty ⟨[.slice a n c,.slice a2 0 c2]⟩) K cs:=by
 obtain⟨inf,z,hu,hinf,hsz,hby,hz,hzs,h0⟩:=sliceT_spec p.h
 refine⟨fun E w hw=>⟨_,w,cs,?_,hw,h⟩⟩
 have e1:∀b:Addr,(Builtin.firstCells inf.size 0 (.slice (some b) 0 c2)).run Tryz.prog w= .ok #[] w:=fun b=>by
  have:=run_firstCells_some (P:=Tryz.prog) w inf.size 0 b 0 c2 [] (by simp) (by simp)
  simpa using this
 cases a2 with
 | none=>
  cases a with
  | none=>simp [Builtin.append_,run_under hu,sizeOf,run_info hinf,Builtin.lenOf,hn,Builtin.firstCells]
  | some q=>simp [Builtin.append_,run_under hu,sizeOf,run_info hinf,Builtin.lenOf,hn,Builtin.firstCells,storeCells]
 | some b=>
  cases a with
  | none=>simp [Builtin.append_,run_under hu,sizeOf,run_info hinf,Builtin.lenOf,hn,e1]
  | some q=>simp [Builtin.append_,run_under hu,sizeOf,run_info hinf,Builtin.lenOf,hn,e1,storeCells]
theorem rows_reads {α:Type} {cs:St} {sz n c:Nat} {e:Enc α sz} {a:Option Addr} {l:List α} (r:RdS cs e a n c l) (hn:0<n):∃b,a=some b∧Reads cs b (l.flatMap e.f):=by
 obtain⟨rb,o,T,cells,h1,h2,h3⟩:=r.get hn
 exact⟨_,h1,fun E w hw j u hu=>by rw [add_ad,h2.cell hw];exact h3 j u hu⟩
instance c387 {cs:St} {K:Value→SP} {a:Option Addr} {n c:Nat} {ps:List ByteArray} [r:Rw 9 1 cs a n c encS ps]:Go1 (fn 387 [.slice a n c] K cs) (n<1000000000∧∀a' n' c',K (.slice a' n' c') cs):=⟨fun⟨hn,h⟩=>up0 (f387 (by
 unfold s387
 have hlen:=r.h.len
 refine go ⟨fun _=>fin (h _ _ _),fun _=> ?_⟩
 refine⟨by decide,fun b1=> ?_⟩
 by_cases h0:n=0
 ·subst h0
  exact app_zero inferInstance (Nat.le_refl _) (go (fin (h _ _ _)))
 ·obtain⟨b,rfl,hr⟩:=rows_reads (r.h.cons (d:=bk b1 9 [])) (by omega)
  refine app_at 0 rfl (Sl.nil (T:=9) (sz:=1)) (bytes:=16) (news:=ps.flatMap encS.f) (by rw [encS.flat_len,←hlen]) hr (fun u hu=> ?_) (by omega) (by omega) (by omega) (fun v' ch' hs=> ?_) (by kernel_rfl)
  ·obtain⟨s,_,hs⟩:=List.mem_flatMap.1 hu
   simp at hs;subst hs;rfl
  ·obtain⟨a',c',rfl⟩:=hs.val
   simp only [List.set_cons_zero]
   exact go (fin (h _ _ _))))⟩
instance (priority:=4000) cut00 {cs:St} {t sz n c:Nat} {a:Option Addr} {K:Value→SP} [p:IxT t sz]:Go1 (qy (Instr.sliceAt t (.slice a n c) none (some (.int .i64 0)) (some (.int .i64 0))) K cs) (K (.slice a 0 0) cs):=⟨fun h=>by
 obtain⟨e,hu,hs⟩:=slT_spec (slT_of p)
 refine⟨_,fun E w _=> ?_,h⟩
 simp [Instr.sliceAt,Instr.slice,Instr.sliceBounds,Instr.sliceBound,run_under hu,run_size hs,asIntOf]⟩
theorem Ob.fnH {X:Type} {C:Nat→X→Chunk} {cs:St} {b:Nat} {x:X} {put:Chunk→St} (o:Ob C cs b x put) (d:Chunk) {g:FuncId} {args:List Value} {K:Value→SP} (parts:St) (hp:parts.flatten=C b x)
  (h:∀F,Go.Proofs.YtbjlfobjngogkaaGreatDoor.fn g args (fun v c=>∃parts',Imp c (parts'++d::F)∧K v (d::put parts'.flatten)) (parts++d::F)):Go.Proofs.YtbjlfobjngogkaaGreatDoor.fn g args K (d::cs):=by
 obtain⟨i,h1,h2⟩:=o.h
 refine fn_focus (i+1) parts (by rw [hp];exact h1) ?_
 refine⟨(h (cs.set i [])).enters,fun E w hw=>Calls.mono ((h (cs.set i [])).calls E w hw) ?_⟩
 rintro e w' ⟨v,c1,he,hw1,parts',g1,g2⟩
 exact⟨v,c1,he,hw1,[],parts',g1,by rw [h2]at g2;exact g2⟩
@[reducible] def encB:Enc UInt8 1:=⟨fun x=>[.int .u8 (x.toNat:Nat)],by omega,fun _=>rfl⟩
instance fdB0:FdI encB 0 .u8 (fun x=>(x.toNat:Int)):=⟨fun _=>rfl⟩
structure Hd where
 win:Int
 a:Option Addr
 n:Nat
 c:Nat
 b:List UInt8
 ch:Chunk
 row:Row 5 1 a n c encB b ch
 seen:Nat
 pa:Option Addr
 pn:Nat
 pc:Nat
 ar:Option (Nat×Ar)
 h0:seen≤b.length
 h1:1≤win
 h2:win≤4096
 h3:b.length≤win
def arP:Option (Nat×Ar)→Option Addr
 | none=>none
 | some y=>some (ad y.1 0)
def arCh:Option (Nat×Ar)→Chunk
 | none=>[]
 | some y=>armsC y.1 y.2
def Hd.m (x:Hd):Option Pats:=x.ar.map fun y=>y.2.m
def holdC (b:Nat) (x:Hd):Chunk:=bk b 436 [.int .i64 x.win,.slice x.a x.n x.c,.int .i64 x.seen,.slice x.pa x.pn x.pc,.pointer (arP x.ar)]++(x.ch++arCh x.ar)
section
variable {cs:St} {b:Nat} {x:Hd} {put:Chunk→St} {K:Value→SP}
instance holdRd [o:Ob holdC cs b x put]:RdB cs b 436 [.int .i64 x.win,.slice x.a x.n x.c,.int .i64 x.seen,.slice x.pa x.pn x.pc,.pointer (arP x.ar)]:=⟨by
 obtain⟨i,h,_⟩:=o.h;exact Rd.in h (by simp [holdC,bk])⟩
instance c231 {w:Int}:Go1 (fn 231 [.int .i64 w] K cs) (∀b x,Hd.win x=min (max w 1) 4096→x.b=[]→x.seen=0→x.m=none→K (.pointer (some (ad b 0))) (holdC b x::cs)):=⟨fun h=>f231 (by
 unfold s231
 have e:(if 4096<if 1>w then 1 else w then 4096 else if 1>w then 1 else w)=min (max w 1) 4096:=by omega
 rw [e]
 refine go fun b=> ?_
 have hh:=h b ⟨min (max w 1) 4096,none,0,0,[],[],⟨Sl.nil⟩,0,none,0,0,none,by simp,by omega,by omega,by simp;omega⟩ rfl rfl rfl rfl
 simpa [holdC,arP,arCh]using hh)⟩
instance c252 [o:Ob holdC cs b x put]:Go1 (fn 252 [.pointer (some (ad b 0))] K cs) (K (.int .i64 ((x.b.length-x.seen:Nat):Int)) cs):=⟨fun h=>f252 (by
 unfold s252
 have h0:=x.h0
 have h1:=x.row.len
 have h2:=x.h2
 have h3:=x.h3
 refine go (keq h ?_)
 rw [w64_id (by omega)]
 congr 1
 omega)⟩
theorem aGo_err:∀(l:List (List UInt8)) (i:Nat) (out:Pats) {j:Nat} {e:Int},aGo l i out= .error (j,e)→e≠0
 | [],_,_,_,_,h=>by rw [aGo]at h;cases h
 | s::l,i,out,j,e,h=>by
  rw [aGo]at h
  split at h
  ·rename_i p e' hp;cases h;exact pCompile_err hp
  ·exact aGo_err l _ _ h
theorem aNew_err {l:List (List UInt8)} {j:Nat} {e:Int} (h:aNew l= .error (j,e)):e≠0:=by
 unfold aNew at h
 split at h
 ·cases h;decide
 ·exact aGo_err _ _ _ h
instance c325 [o:Ob holdC cs b x put] {a:Option Addr} {n c:Nat} {ps:List ByteArray} {d:Chunk} [r:Row 9 1 a n c encS ps d]:Go1 (fn 325 [.pointer (some (ad b 0)),.slice a n c] K (d::cs))
  (((∀s∈ps,s.size≤1000000000000)∧n<1000000000)∧(∀i e,aNew (ps.map bl)= .error (i,e)→K (.int .i64 e) (d::cs))∧
   ∀m,aNew (ps.map bl)= .ok m→∀x',Hd.win x'=x.win→x'.b=x.b→x'.seen=0→x'.m=some m→K (.int .i64 0) (d::put (holdC b x'))):=⟨fun h=>
 o.fnH d [bk b 436 [.int .i64 x.win,.slice x.a x.n x.c,.int .i64 x.seen,.slice x.pa x.pn x.pc,.pointer (arP x.ar)],x.ch,arCh x.ar] (by simp [holdC]) fun F=>f325 (by
 obtain⟨⟨h1,h2⟩,he,hk⟩:=h
 simp only [List.cons_append,List.nil_append]
 unfold s325
 refine go ⟨⟨h1,by omega⟩,fun i e hn=>⟨fun c1=> ?_,fun c1=> ?_⟩,fun m hm b1 y hy=>⟨fun c1=>(by simp at c1),fun _=>⟨h2,fun a' n' c'=> ?_⟩⟩⟩
 ·have:=he i e hn
  rw [←o.same]at this
  refine⟨[_,_,_],Imp.refl _,?_⟩
  simpa [holdC]using this
 ·exact absurd (by simpa using c1) (aNew_err hn)
 ·have hh:=hk m hm ⟨x.win,x.a,x.n,x.c,x.b,x.ch,x.row,0,a',n',c',some (b1,y),Nat.zero_le _,x.h1,x.h2,x.h3⟩ rfl rfl rfl (by simp [Hd.m,hy])
  refine⟨[bk b 436 [.int .i64 x.win,.slice x.a x.n x.c,.int .i64 0,.slice a' n' c',.pointer (some (ad b1 0))],x.ch,armsC b1 y],?_,by simpa [holdC,arP,arCh]using hh⟩
  simp only [List.cons_append,List.nil_append]
  exact drp)⟩
instance c432 [o:Ob holdC cs b x put]:Go1 (fn 432 [.pointer (some (ad b 0))] K cs)
  (x.seen<x.b.length∧∃m,x.m=some m∧∀x',Hd.win x'=x.win→x'.b=x.b→x'.seen=x.seen+1→x'.m=some (aFeed m (x.b.getD x.seen 0).toNat)→
   K (foundV (aFound (aFeed m (x.b.getD x.seen 0).toNat))) (put (holdC b x'))):=⟨fun h=>by
 obtain⟨hs,m,hm,h⟩:=h
 obtain⟨y,hy⟩:∃y,x.ar=some y:=by
  cases ha:x.ar with
  | none=>simp [Hd.m,ha]at hm
  | some y=>exact⟨y,rfl⟩
 have hym:y.2.m=m:=by simpa [Hd.m,hy]using hm
 refine o.fn3 (bk b 436 [.int .i64 x.win,.slice x.a x.n x.c,.int .i64 x.seen,.slice x.pa x.pn x.pc,.pointer (some (ad y.1 0))]) x.ch (armsC y.1 y.2) (by simp [holdC,hy,arP,arCh]) fun F=>f432 ?_
 unfold s432
 have hr:=x.row
 have hlen:=x.row.len
 have h2:=x.h2
 have h3:=x.h3
 refine go ?_
 have w1:w64 (w64 ((x.seen:Int)+1)-1)=(x.seen:Int):=by rw [w64_id (n:=(x.seen:Int)+1) (by omega),w64_id (by omega)];omega
 have w2:w64 ((x.seen:Int)+1)=((x.seen+1:Nat):Int):=by rw [w64_id (by omega)];rfl
 rw [w1,w2,Int.toNat_natCast]
 refine⟨⟨by omega,by omega⟩,fun z hz=> ?_⟩
 have hz2:x.b.getD x.seen 0=z:=by rw [List.getD_eq_getElem?_getD,hz];rfl
 rw [hz2]at h
 refine go ⟨UInt8.toNat_lt _,fun y' hy'=> ?_⟩
 have hh:=h ⟨x.win,x.a,x.n,x.c,x.b,x.ch,x.row,x.seen+1,x.pa,x.pn,x.pc,some (y.1,y'),by omega,x.h1,x.h2,x.h3⟩ rfl rfl rfl (by simp [Hd.m,hy',hym])
 rw [hym]
 simp only [holdC,arP,arCh]at hh
 cases hf:aFound (aFeed m z.toNat)with
 | none=>
  rw [hf]at hh
  simp only [foundV]at hh ⊢
  exact go ⟨_,_,_,Imp.refl _,hh⟩
 | some j=>
  rw [hf]at hh
  simp only [foundV]at hh ⊢
  exact go ⟨_,_,_,Imp.refl _,hh⟩⟩
instance c433 [o:Ob holdC cs b x put] {n:Nat}:Go1 (fn 433 [.pointer (some (ad b 0)),.int .i64 (n:Int)] K cs)
  (n≤x.b.length∧∃m,x.m=some m∧∀x',Hd.win x'=x.win→x'.b=x.b.drop n→x'.seen=0→x'.m=some (aFresh m)→K undef (put (holdC b x'))):=⟨fun h=>by
 obtain⟨hs,m,hm,h⟩:=h
 obtain⟨y,hy⟩:∃y,x.ar=some y:=by
  cases ha:x.ar with
  | none=>simp [Hd.m,ha]at hm
  | some y=>exact⟨y,rfl⟩
 have hym:y.2.m=m:=by simpa [Hd.m,hy]using hm
 refine o.fn3 (bk b 436 [.int .i64 x.win,.slice x.a x.n x.c,.int .i64 x.seen,.slice x.pa x.pn x.pc,.pointer (some (ad y.1 0))]) x.ch (armsC y.1 y.2) (by simp [holdC,hy,arP,arCh]) fun F=>f433 ?_
 unfold s433
 have hr:=x.row
 have hlen:=x.row.len
 have h2:=x.h2
 have h3:=x.h3
 refine go ⟨⟨by omega,by omega⟩,fun a' r'=> ?_⟩
 rw [Int.toNat_natCast]at r' ⊢
 have h1:=x.h1
 have fin0:∀(a2:Option Addr) (c2:Nat) (ch2:Chunk) (y':Ar),Row 5 1 a2 (x.n-n) c2 encB (x.b.drop n) ch2→y'.m=aFresh y.2.m→K undef (put (bk b 436 [.int .i64 x.win,.slice a2 (x.n-n) c2,.int .i64 0,.slice x.pa x.pn x.pc,.pointer (some (ad y.1 0))]++(ch2++armsC y.1 y'))):=by
  intro a2 c2 ch2 y' r2 hy'
  have hh:=h ⟨x.win,a2,x.n-n,c2,x.b.drop n,ch2,r2,0,x.pa,x.pn,x.pc,some (y.1,y'),Nat.zero_le _,x.h1,x.h2,by rw [List.length_drop];omega⟩ rfl rfl rfl (by simp [Hd.m,hy',hym])
  simp only [holdC,arP,arCh]at hh
  exact hh
 by_cases h0:x.n-n=0
 ·rw [h0]at r' fin0 ⊢
  have e:x.b.drop n=[]:=List.drop_eq_nil_of_le (by omega)
  refine app_zero inferInstance (Nat.le_refl _) (go fun y' hy'=> ?_)
  exact⟨_,_,_,Imp.refl _,fin0 x.a 0 x.ch y' (by rw [e];exact⟨Sl.nil⟩) hy'⟩
 ·have rw':Rw 5 1 (bk b 436 [.int .i64 x.win,.slice x.a x.n x.c,.int .i64 x.seen,.slice x.pa x.pn x.pc,.pointer (some (ad y.1 0))]::x.ch::armsC y.1 y.2::F) a' (x.n-n) (x.c-n) encB (x.b.drop n):=inferInstance
  obtain⟨b2,rfl,hrd⟩:=rows_reads rw'.h (by omega)
  refine app_at 1 rfl (Sl.nil (T:=5) (sz:=1)) (bytes:=1) (news:=(x.b.drop n).flatMap encB.f) (by rw [encB.flat_len,List.length_drop,hlen]) hrd (fun u hu=> ?_) (by omega) (by omega) (by omega) (fun v' ch' hs=> ?_) (by kernel_rfl)
  ·obtain⟨s,_,hs⟩:=List.mem_flatMap.1 hu
   simp at hs;subst hs;rfl
  ·obtain⟨a2,c2,rfl⟩:=hs.val
   simp only [List.set_cons_succ,List.set_cons_zero,Nat.zero_add,List.nil_append]at hs ⊢
   refine go fun y' hy'=> ?_
   exact⟨_,_,_,Imp.refl _,fin0 a2 c2 ch' y' ⟨hs⟩ hy'⟩⟩
end
class Ob2 {X Y:Type} (C:Nat→X→Chunk) (D:Nat→Y→Chunk) (cs:St) (b:Nat) (x:outParam X) (d:Nat) (y:outParam Y) (put:outParam (Chunk→Chunk→St)):Prop where
 h:∃i j,i≠j∧cs[i]? =some (C b x)∧cs[j]? =some (D d y)∧∀c e,put c e=(cs.set j e).set i c
section
variable {X Y:Type} {C:Nat→X→Chunk} {D:Nat→Y→Chunk} {cs:St} {b d:Nat} {x:X} {y:Y}
instance {p:Chunk→St} [o:Ob C cs b x p]:Ob2 C D (D d y::cs) b x d y (fun c e=>e::p c):=⟨by
 obtain⟨j,h1,h2⟩:=o.h
 exact⟨j+1,0,by omega,h1,rfl,fun c e=>by simp [h2]⟩⟩
instance {p:Chunk→Chunk→St} {k:Chunk} [o:Ob2 C D cs b x d y p]:Ob2 C D (k::cs) b x d y (fun c e=>k::p c e):=⟨by
 obtain⟨i,j,h0,h1,h2,h3⟩:=o.h
 exact⟨i+1,j+1,by omega,h1,h2,fun c e=>by simp [h3]⟩⟩
theorem Ob2.fn {put:Chunk→Chunk→St} (o:Ob2 C D cs b x d y put) {g:FuncId} {args:List Value} {K:Value→SP}
  (h:∀F,Go.Proofs.YtbjlfobjngogkaaGreatDoor.fn g args (fun v c=>∃q1 q2,Imp c (q1::q2::F)∧K v (put q1 q2)) (C b x::D d y::F)):Go.Proofs.YtbjlfobjngogkaaGreatDoor.fn g args K cs:=by
 obtain⟨i,j,h0,h1,h2,h3⟩:=o.h
 have e1:(cs.set j [])[i]? =some (C b x):=by rw [List.getElem?_set_ne (Ne.symm h0)];exact h1
 have p1:Imp cs (D d y::cs.set j []):=Imp.part (parts:=[D d y]) (by simpa using h2)
 have p2:Imp (D d y::cs.set j []) (C b x::D d y::(cs.set j []).set i []):=Imp.part (i:=i+1) (parts:=[C b x]) (cs:=D d y::cs.set j []) (by simpa using e1)
 refine fn_up (p1.trans p2) (fn_weak (fun v c ⟨q1,q2,g1,g2⟩=>⟨put q1 q2,g1.trans ?_,g2⟩) (h ((cs.set j []).set i [])))
 have r1:Imp (q1::q2::(cs.set j []).set i []) (q2::(cs.set j []).set i q1):=by
  have:=Imp.join (front:=[q2]) (parts:=[q1]) (cs:=cs.set j []) (i:=i) (by rw [List.length_set];exact lt_of_get h1)
  have e:Imp (q1::q2::(cs.set j []).set i []) (q2::q1::(cs.set j []).set i []):=drp
  exact e.trans (by simpa using this)
 have r2:Imp (q2::(cs.set j []).set i q1) ((cs.set i q1).set j q2):=by
  have:=Imp.join (front:=[]) (parts:=[q2]) (cs:=cs.set i q1) (i:=j) (by rw [List.length_set];exact lt_of_get h2)
  rw [List.set_comm _ _ h0]at this
  simpa using this
 have e9:(cs.set j q2).set i q1=(cs.set i q1).set j q2:=List.set_comm _ _ (Ne.symm h0)
 rw [h3,e9]
 exact r1.trans r2
end
theorem st_up {t:TypeId} {a:Addr} {v:Value} {K:SP} {cs:St} (h:st t a v (fun c=>∃c',Imp c c'∧K c') cs):st t a v K cs:=by
 cases h with
 | mk h=>exact⟨fun E w hw=>by obtain⟨v,w',cs',h1,h2,c',h3,h4⟩:=h E w hw;exact⟨v,w',c',h1,h3 E w' h2,h4⟩⟩
theorem sm_imp {s:Sem Value} {K:Value→SP} {cs cs':St} (hi:Imp cs cs') (h:sm s K cs'):sm s K cs:=by
 cases h with
 | mk h=>exact⟨fun E w hw=>h E w (hi E w hw)⟩
instance (priority:=6000) holdPush {cs:St} {b q:Nat} {x:Hd} {put:Chunk→St} {k:UInt8} {K:SP} [o:Ob holdC cs b x put] [rq:RdB cs q 5 [.int .u8 (k.toNat:Nat)]]:
  Go1 (sm (Builtin.append_ ⟨[110,110]⟩ 110 ⟨[.slice x.a x.n x.c,.slice (some (ad q 0)) 1 1]⟩) (fun v=>unL v fun a n c=>st 110 ((ad b 0).add 1) (.slice a n c) K) cs)
   ((x.b.length:Int)<x.win∧∀x',Hd.win x'=x.win→x'.b=x.b++[k]→x'.seen=x.seen→x'.m=x.m→K (put (holdC b x'))):=⟨fun⟨hw,h⟩=>by
 obtain⟨i,h1,h2⟩:=o.h
 have hlen:=x.row.len
 have hb:=x.h2
 have hp:Imp cs ([bk b 436 [.int .i64 x.win,.slice x.a x.n x.c,.int .i64 x.seen,.slice x.pa x.pn x.pc,.pointer (arP x.ar)],x.ch,arCh x.ar]++cs.set i []):=Imp.part (by rw [h1];simp [holdC])
 refine sm_imp hp ?_
 simp only [List.cons_append,List.nil_append]
 have r0:=x.row
 refine app_at 1 rfl r0.h (bytes:=1) (news:=[.int .u8 (k.toNat:Nat)]) rfl (fun E w hw j u hu=> ?_) (fun u hu=> ?_) (by omega) (by omega) (by omega) (fun v' ch' hs=> ?_) (by kernel_rfl)
 ·have hj:=Imp.join (front:=[]) (parts:=[bk b 436 [.int .i64 x.win,.slice x.a x.n x.c,.int .i64 x.seen,.slice x.pa x.pn x.pc,.pointer (arP x.ar)],x.ch,arCh x.ar]) (cs:=cs) (i:=i) (lt_of_get h1)
  have hb2:=o.same
  rw [h2]at hb2
  have hw2:=hj E w (by simpa using hw)
  have e:[bk b 436 [.int .i64 x.win,.slice x.a x.n x.c,.int .i64 x.seen,.slice x.pa x.pn x.pc,.pointer (arP x.ar)],x.ch,arCh x.ar].flatten=holdC b x:=by simp [holdC]
  rw [e,List.nil_append,hb2]at hw2
  rw [add_ad,rq.h.cell hw2,Nat.zero_add,hu]
 ·simp at hu;subst hu;rfl
 ·obtain⟨a2,c2,rfl⟩:=hs.val
  simp only [List.set_cons_succ,List.set_cons_zero]
  refine⟨_,_,_,rfl,st_up (go ?_)⟩
  have hrow:Row 5 1 a2 (x.n+1) c2 encB (x.b++[k]) ch':=⟨by rw [List.flatMap_append];exact hs⟩
  have hh:=h ⟨x.win,a2,x.n+1,c2,x.b++[k],ch',hrow,x.seen,x.pa,x.pn,x.pc,x.ar,by have:=x.h0;simp;omega,x.h1,x.h2,by simp;omega⟩ rfl rfl rfl rfl
  rw [h2]at hh
  refine⟨_,?_,hh⟩
  exact Imp.trans (Imp.refl _) (by
   have hj:=Imp.join (front:=[]) (parts:=[bk b 436 [.int .i64 x.win,.slice a2 (x.n+1) c2,.int .i64 x.seen,.slice x.pa x.pn x.pc,.pointer (arP x.ar)],ch',arCh x.ar]) (cs:=cs) (i:=i) (lt_of_get h1)
   simpa [holdC]using hj)⟩
def fndL (f:Fnd):List Value:=[.bool f.mat,.bool f.full,.int .i64 (f.arm:Nat),.int .i64 (f.gone:Nat),.int .i64 (f.read:Nat)]
section
variable {cs:St} {b rb:Nat} {x:Hd} {r:Rg} {put:Chunk→Chunk→St} {K:Value→SP}
instance c418 [o:Ob2 holdC ringC cs b x rb r put]:Go1 (fn 418 [.pointer (some (ad b 0)),.pointer (some (ad rb 0))] K cs)
  (∃m,x.m=some m∧∀x' r',Hd.win x'=x.win→x'.b=(hlook x.win ⟨x.b,x.seen,m,r.q⟩).2.b→x'.seen=(hlook x.win ⟨x.b,x.seen,m,r.q⟩).2.seen→x'.m=some (hlook x.win ⟨x.b,x.seen,m,r.q⟩).2.m→
   r'.q=(hlook x.win ⟨x.b,x.seen,m,r.q⟩).2.r→r'.buf.length=r.buf.length→K (.agg ⟨fndL (hlook x.win ⟨x.b,x.seen,m,r.q⟩).1⟩) (put (holdC b x') (ringC rb r'))):=⟨fun⟨m,hm,h⟩=>o.fn fun F=>f418 (by
 unfold s418
 refine go fun b1 b2=> ?_
 refine lp (fun _:Hd×Rg×Pats×Nat×Nat=>[]) (fun y=>bk b2 514 [.bool false,.bool false,.int .i64 0,.int .i64 0,.int .i64 (y.2.2.2.1:Nat)]::bk b1 514 [.bool false,.bool false,.int .i64 0,.int .i64 0,.int .i64 0]::holdC b y.1::ringC rb y.2.1::F)
  (fun y=>y.1.win=x.win∧y.1.m=some y.2.2.1∧hLook x.win y.2.2.2.2 ⟨y.1.b,y.1.seen,y.2.2.1,y.2.1.q⟩ y.2.2.2.1=hlook x.win ⟨x.b,x.seen,m,r.q⟩∧y.1.b.length-y.1.seen+y.2.1.q.length+1≤y.2.2.2.2∧y.2.1.buf.length=r.buf.length∧y.2.2.2.1+y.2.1.q.length≤r.q.length) (fun y=>y.2.2.2.2)
  (x,r,m,0,x.b.length-x.seen+r.q.length+1) rfl drp ⟨rfl,hm,rfl,Nat.le_refl _,rfl,by simp⟩ ?_
 rintro⟨xh,rr,mm,rd,f⟩ ⟨i1,i2,i3,i4,i5,i6⟩
 dsimp only at *
 have hrow:=xh.row.len
 have hseen:=xh.h0
 obtain⟨f',rfl⟩:∃f',f=f'+1:=⟨f-1,by omega⟩
 have hr4:=r.q_length
 have hr5:=r.h3
 have hr6:=r.h1
 refine⟨fun _ c=>∃(xh':Hd) (rr':Rg) (rd':Nat),Imp c (bk b2 514 [.bool false,.bool false,.int .i64 0,.int .i64 0,.int .i64 (rd':Nat)]::bk b1 514 [.bool false,.bool false,.int .i64 0,.int .i64 0,.int .i64 0]::holdC b xh'::ringC rb rr'::F)∧
  xh'.win=x.win∧xh'.m=some mm∧xh'.seen<xh'.b.length∧hFeed (hLook x.win f') mm xh'.seen xh'.b rr'.q rd'=hlook x.win ⟨x.b,x.seen,m,r.q⟩∧xh'.b.length-(xh'.seen+1)+rr'.q.length+1≤f'∧rr'.buf.length=r.buf.length∧rd'+rr'.q.length≤r.q.length,?_,?_⟩
 ·rintro l c ⟨xh',rr',rd',hi,j1,j2,j3,j4,j5,j6,j7⟩
  refine⟨_,hi,?_⟩
  refine go ⟨j3,mm,j2,fun x' q1 q2 q3 q4=> ?_⟩
  simp only [hFeed]at j4
  cases hf:aFound (aFeed mm (xh'.b.getD xh'.seen 0).toNat)with
  | none=>
   rw [hf]at j4
   simp only [foundV]
   refine go ⟨(x',rr',aFeed mm (xh'.b.getD xh'.seen 0).toNat,rd',f'),trivial,drp,⟨by rw [q1,j1],q4,?_,?_,j6,j7⟩,by simp only;omega⟩
   ·simp only at j4 ⊢
    rw [q2,q3];exact j4
   ·simp only
    rw [q2,q3];exact j5
  | some kk=>
   rw [hf]at j4
   simp only [foundV]
   refine go ⟨by rw [q2,q3];omega,_,q4,fun x'' p1 p2 p3 p4=> ?_⟩
   simp only at j4
   rw [←j4]at h
   have hh:=h x'' rr' (by rw [p1,q1,j1]) (by rw [p2,q2,q3]) p3 p4 rfl j6
   rw [q3]
   exact⟨_,_,drp,hh⟩
 ·have hrq:=rr.q_length
  refine go ?_
  simp only [beq_iff_eq,beq_eq_false_iff_ne,ne_eq]
  unfold hLook at i3
  refine⟨fun c1=>⟨fun c2=> ?_,fun c2=>⟨fun c3=> ?_,fun c3 rr2 e1 e2=> ?_⟩⟩,fun c1=> ?_⟩
  ·have g1:xh.seen=xh.b.length:=by omega
   have g2:rr.q=[]:=List.length_eq_zero_iff.1 (by omega)
   simp only [g1,g2,if_true]at i3
   have hh:=h xh rr i1 (by rw [←i3]) (by rw [←i3];exact g1) (by rw [←i3];exact i2) (by rw [←i3];exact g2) i5
   rw [←i3]at hh
   exact⟨_,_,drp,hh⟩
  ·have g1:xh.seen=xh.b.length:=by omega
   cases hq:rr.q with
   | nil=>rw [hq]at hrq;simp at hrq;omega
   | cons k q'=>
    have g3:(xh.b.length:Int)=x.win:=by omega
    simp only [g1,hq,g3,if_true]at i3
    have hh:=h xh rr i1 (by rw [←i3]) (by rw [←i3];exact g1) (by rw [←i3];exact i2) (by rw [←i3];exact hq) i5
    rw [←i3]at hh
    exact⟨_,_,drp,hh⟩
  ·have g1:xh.seen=xh.b.length:=by omega
   cases hq:rr.q with
   | nil=>rw [hq]at hrq;simp at hrq;omega
   | cons k q'=>
    have g0:(min (max 1 0) (rr.n:Int)).toNat=1:=by rw [hq]at hrq;simp at hrq;omega
    have g3:¬(xh.b.length:Int)=x.win:=by omega
    have g4:=xh.h3
    rw [g0,hq]at e1
    rw [g0]
    simp only [g1,hq,g3,if_true,if_false]at i3
    have g5:sat (sb (List.take 1 (k::q'))) 0=((k.toNat:Nat):Int):=rfl
    rw [g5]
    refine⟨⟨by omega,by simp [sb_size]⟩,by decide,fun q=> ?_⟩
    refine go ⟨by omega,fun x' p1 p2 p3 p4=> ?_⟩
    have w1:w64 ((rd:Int)+1)=((rd+1:Nat):Int):=by rw [hq]at i6;simp at i6;rw [w64_id (by omega)];rfl
    rw [w1]
    have e3:rr2.q=q':=by simpa using e1
    refine⟨x',rr2,rd+1,drp,by rw [p1,i1],by rw [p4,i2],by rw [p2,p3];simp;omega,?_,?_,by rw [e2,i5],?_⟩
    ·rw [p2,p3,e3,g1];exact i3
    ·rw [p2,p3,e3];rw [hq]at i4;simp at i4 ⊢;omega
    ·rw [e3];rw [hq]at i6;simp at i6;omega
  ·have g1:¬xh.seen=xh.b.length:=by omega
   simp only [g1,if_false]at i3
   exact⟨xh,rr,rd,drp,i1,i2,by omega,i3,by omega,i5,i6⟩)⟩
end
end Go.Proofs.YtbjlfobjngogkaaGreatDoor
namespace Go.Proofs.YtbjlfobjngogkaaGreatDoor
structure ArmM where
 pat:ByteArray
 to:Int
structure OpM where
 kind:Int
 text:ByteArray
 n:Int
 to:Int
 arms:List ArmM
 onT:Int
 onE:Int
structure PrM where
 name:ByteArray
 dl:Int
 jumps:Int
 ops:List OpM
def PrM.zero:PrM:=⟨.empty,0,0,[]⟩
def OpM.zero:OpM:=⟨0,.empty,0,0,[],0,0⟩
def OpM.Fit (o:OpM):Prop:=o.text.size≤1000000000000∧o.arms.length≤1000000000∧∀m∈o.arms,m.pat.size≤1000000000000
def PrM.Fit (p:PrM):Prop:=p.name.size≤1000000000000∧p.ops.length≤1000000000∧∀o∈p.ops,o.Fit
def comes (p:PrM) (t:Int):Bool:=decide (0≤t)&&decide (t≤p.ops.length)
def bareO (o:OpM):OpM:=
 if o.kind=1 then{OpM.zero with kind:=o.kind,text:=o.text}
 else if o.kind=2 then{OpM.zero with kind:=o.kind,n:=o.n,arms:=o.arms,onT:=o.onT,onE:=o.onE}
 else if o.kind=3 then{OpM.zero with kind:=o.kind,to:=o.to}
 else if o.kind=4 then{OpM.zero with kind:=o.kind,n:=o.n}
 else{OpM.zero with kind:=o.kind}
def sameA (a b:ArmM):Bool:=a.pat == b.pat&&a.to == b.to
def sameL:List ArmM→List ArmM→Bool
 | [],[]=>true
 | a::l,b::m=>sameA a b&&sameL l m
 | _,_=>false
def sameO (a b:OpM):Bool:=(a.kind == b.kind&&a.text == b.text&&a.n == b.n&&a.to == b.to&&a.onT == b.onT&&a.onE == b.onE)&&sameL a.arms b.arms
def firstE:List Int→Int
 | []=>0
 | e::l=>if e≠0 then e else firstE l
def within (n a b:Int):Bool:=decide (a≤n)&&decide (n≤b)
def armE (p:PrM) (m:ArmM):Int:=
 if m.pat.size>64 then 4 else match pCompile m.pat.data.toList with
 | .error (_,e)=>e
 | .ok _=>if comes p m.to then 0 else 13
def jumpE (p:PrM) (t:Int):Int:=if t≠-1∧comes p t=false then 13 else 0
def expE (p:PrM) (o:OpM):Int:=
 if o.n≠never∧within o.n 0 1000000000000=false then 12
 else if o.arms.length>8 then 4
 else if firstE (o.arms.map (armE p))≠0 then firstE (o.arms.map (armE p))
 else firstE [jumpE p o.onT,jumpE p o.onE]
def opE (p:PrM) (o:OpM):Int:=
 if o.kind<1∨o.kind>6 then 11
 else if sameO o (bareO o)=false then 2
 else if o.kind=1 then(if o.text.size=0 then 9 else if o.text.size>256 then 4 else 0)
 else if o.kind=2 then expE p o
 else if o.kind=3 then(if comes p o.to=false then 13 else 0)
 else if o.kind=4 then(if within o.n 0 1000000000000=false then 12 else 0)
 else 0
def nameOk (s:List UInt8):Bool:=
 decide (0<s.length)&&decide (s.length≤16)&&decide (97≤(s.getD 0 0).toNat)&&s.all fun c=> !((decide (c.toNat<97)||decide (c.toNat>122))&&(decide (c.toNat<48)||decide (c.toNat>57)))
def wrongE (p:PrM):Int:=
 if nameOk p.name.data.toList=false then 10
 else if(p.dl≠never∧within p.dl 1 1000000000000=false)∨within p.jumps 0 1000=false then 12
 else if p.ops.length>200 then 4
 else firstE (p.ops.map (opE p))
def goodP (p:PrM):Bool:=wrongE p == 0
end Go.Proofs.YtbjlfobjngogkaaGreatDoor
namespace Go.Proofs.YtbjlfobjngogkaaGreatDoor
open Go
set_option synthInstance.maxSize 100000
set_option synthInstance.maxHeartbeats 1000000
set_option maxRecDepth 100000
@[reducible] def encArm:Enc ArmM 2:=⟨fun m=>[.string m.pat,.int .i64 m.to],by omega,fun _=>rfl⟩
abbrev OpV:=OpM×Option Addr×Nat×Nat
@[reducible] def opCells (o:OpM) (a:Option Addr) (n c:Nat):List Value:=[.int .i64 o.kind,.string o.text,.int .i64 o.n,.int .i64 o.to,.slice a n c,.int .i64 o.onT,.int .i64 o.onE]
@[reducible] def encOp:Enc OpV 7:=⟨fun x=>opCells x.1 x.2.1 x.2.2.1 x.2.2.2,by omega,fun _=>rfl⟩
@[reducible] def prCells (p:PrM) (a:Option Addr) (n c:Nat):List Value:=[.string p.name,.int .i64 p.dl,.int .i64 p.jumps,.slice a n c]
class OpR (cs:St) (v:List Value) (o:outParam OpM):Prop where
 h:∃a n c,v=opCells o a n c∧RdS cs encArm a n c o.arms
class PrR (cs:St) (v:List Value) (p:outParam PrM):Prop where
 h:∃a n c L,v=prCells p a n c∧RdS cs encOp a n c L∧L.map Prod.fst=p.ops∧∀x∈L,RdS cs encArm x.2.1 x.2.2.1 x.2.2.2 x.1.arms
instance (priority:=50) opThere {cs:St} {v:List Value} {o:OpM} {d:Chunk} [r:OpR cs v o]:OpR (d::cs) v o:=⟨by
 obtain⟨a,n,c,h1,h2⟩:=r.h
 exact⟨a,n,c,h1,h2.cons⟩⟩
instance (priority:=50) prThere {cs:St} {v:List Value} {p:PrM} {d:Chunk} [r:PrR cs v p]:PrR (d::cs) v p:=⟨by
 obtain⟨a,n,c,L,h1,h2,h3,h4⟩:=r.h
 exact⟨a,n,c,L,h1,h2.cons,h3,fun x hx=>(h4 x hx).cons⟩⟩
theorem rds_nil {α:Type} {sz:Nat} {cs:St} {e:Enc α sz} {a:Option Addr}:RdS cs e a 0 0 []:=⟨rfl,Nat.le_refl _,fun h=>absurd h (Nat.lt_irrefl 0)⟩
theorem w64_succ {i:Nat} (h:i≤1000000000000000):w64 ((i:Int)+1)=((i+1:Nat):Int):=by rw [w64_id (by omega)];rfl
theorem bl_eq (s t:ByteArray):(s.toList == t.toList)=(s == t):=(beq_toListBytes s t).symm
theorem size0 (s:ByteArray):(s.toList == (bs []).toList)=decide (s.size=0):=empty_iff s
def fKey (f:Field):Bool×Nat×Nat:=(f.name != "_",f.type,f.offset)
def eqK (d:Nat) (xs ys:Array Value):List (Bool×Nat×Nat)→Sem Bool
 | []=>pure true
 | f::fs=>
  if f.1=true then do
   let a←part f.2.1 xs f.2.2
   let b←part f.2.1 ys f.2.2
   let r←Op.equalIn d f.2.1 a b
   if(!r)=true then pure false else eqK d xs ys fs
  else eqK d xs ys fs
theorem eqFields_key (d:Nat) (xs ys:Array Value):∀fs:List Field,Op.eqFields d xs ys fs=eqK d xs ys (fs.map fKey)
 | []=>rfl
 | f::fs=>by
  simp only [Op.eqFields,List.map_cons,eqK,fKey,eqFields_key d xs ys fs,bne_iff_ne,ne_eq]
class StrT (t:Nat) (fs:outParam (List (Bool×Nat×Nat))):Prop where
 h:((match Tryz.prog.underlying t with | some (.struct a)=>decide (a.toList.map fKey=fs) | _=>false)&& !(Tryz.prog.stoodInHeld t)&& !(Tryz.prog.eqGuardType Tryz.prog.depth t))=true
theorem strT_facts {t:Nat} {fs:List (Bool×Nat×Nat)} (p:StrT t fs):Tryz.prog.underlying t=some (.struct (Tryz.prog.fieldsOf t))∧(Tryz.prog.fieldsOf t).toList.map fKey=fs∧Tryz.prog.stoodInHeld t=false∧Tryz.prog.eqGuardType Tryz.prog.depth t=false:=by
 have h:=p.h
 simp only [Bool.and_eq_true,Bool.not_eq_true']at h
 obtain⟨⟨h1,h2⟩,h3⟩:=h
 split at h1
 ·rename_i a ha
  unfold Program.fieldsOf
  rw [ha]
  exact⟨rfl,of_decide_eq_true h1,h2,h3⟩
 ·cases h1
class EqK (d:Nat) (xs ys:List Value) (fs:List (Bool×Nat×Nat)) (b:outParam Bool):Prop where
 h:∀w:World,(eqK d ⟨xs⟩ ⟨ys⟩ fs).run Tryz.prog w= .ok b w
instance {d:Nat} {xs ys:List Value}:EqK d xs ys [] true:=⟨fun _=>rfl⟩
class Plk (t:Nat):Prop where
 h:Tryz.prog.plainKey t=true
class EqV (d:Nat) (t:Nat) (x y:Value) (b:outParam Bool):Prop where
 h:∀w:World,(Op.equalIn d t x y).run Tryz.prog w= .ok b w
class UnI (t:Nat) (k:outParam IntKind):Prop where
 h:Tryz.prog.underlying t=some (.int k)
class UnS (t:Nat):Prop where
 h:Tryz.prog.underlying t=some .string
instance {d t:Nat} {k k':IntKind} {a b:Int} [u:UnI t k']:EqV (d+1) t (.int k a) (.int k b) (a == b):=⟨fun w=>run_equalIn_int w d t k k' a b u.h⟩
instance {d t:Nat} {a b:ByteArray} [u:UnS t]:EqV (d+1) t (.string a) (.string b) (a == b):=⟨fun w=>by rw [run_equalIn_string w d t a b u.h,bl_eq]⟩
instance {d t o:Nat} {xs ys:List Value} {x y:Value} {fs:List (Bool×Nat×Nat)} {b c:Bool} [p:Plk t] [g1:Get xs o x] [g2:Get ys o y] [e:EqV d t x y b] [r:EqK d xs ys fs c]:EqK d xs ys ((true,t,o)::fs) (b&&c):=⟨fun w=>by
 have h1:(⟨xs⟩:Array Value)[o]? =some x:=by simpa using g1.h
 have h2:(⟨ys⟩:Array Value)[o]? =some y:=by simpa using g2.h
 simp only [eqK,if_true,Sem.run_bind,run_part_plain w p.h h1,run_part_plain w p.h h2,Result.andThen_ok,e.h w]
 cases b
 ·simp
 ·simpa using r.h w⟩
instance:Plk 3:=⟨by kernel_rfl⟩
instance:Plk 9:=⟨by kernel_rfl⟩
instance:UnI 3 .i64:=⟨Tryz.underlying3⟩
instance:UnS 9:=⟨Tryz.underlying9⟩
instance:StrT 146 [(true,9,0),(true,3,1)]:=⟨by kernel_rfl⟩
theorem eqv_struct {d t:Nat} {xs ys:List Value} {fs:List (Bool×Nat×Nat)} {b:Bool} (p:StrT t fs) (e:EqK d xs ys fs b) (w:World):(Op.equalIn (d+1) t (.agg ⟨xs⟩) (.agg ⟨ys⟩)).run Tryz.prog w= .ok b w:=by
 obtain⟨h1,h2,h3,_⟩:=strT_facts p
 rw [run_equalIn_agg w d t _ _ h1 h3,eqFields_key,h2]
 exact e.h w
instance {cs:St} {K:Value→SP} {t:Nat} {x y:Operand} {xs ys:List Value} {fs:List (Bool×Nat×Nat)} {b:Bool} [p:StrT t fs] [e:EqK 9999 xs ys fs b]:Go1 (qy (bsem .neq t x y (.agg ⟨xs⟩) (.agg ⟨ys⟩)) K cs) (K (.bool (!b)) cs):=⟨fun h=>by
 refine⟨_,fun E w _=> ?_,h⟩
 simp only [bsem,Sem.run_bind,run_eqGuard_agg (P:=Tryz.prog) w .neq t x y _ _ (strT_facts p).2.2.2,Result.andThen_ok]
 rw [run_neq_struct,eqv_struct p e w]
 rfl⟩
class NthF (fs:List (Bool×Nat×Nat)) (i:Nat) (ty off:outParam Nat):Prop where
 h:∃b,fs[i]? =some (b,ty,off)
instance {b:Bool} {ty off:Nat} {fs:List (Bool×Nat×Nat)}:NthF ((b,ty,off)::fs) 0 ty off:=⟨⟨b,rfl⟩⟩
class StrF (t:Nat) (fs:outParam (List (Bool×Nat×Nat))):Prop where
 h:(match Tryz.prog.underlying t with | some (.struct a)=>decide (a.toList.map fKey=fs) | _=>false)=true
theorem strF_facts {t:Nat} {fs:List (Bool×Nat×Nat)} (p:StrF t fs):Tryz.prog.underlying t=some (.struct (Tryz.prog.fieldsOf t))∧(Tryz.prog.fieldsOf t).toList.map fKey=fs:=by
 have h1:=p.h
 split at h1
 ·rename_i a ha
  unfold Program.fieldsOf
  rw [ha]
  exact⟨rfl,of_decide_eq_true h1⟩
 ·cases h1
instance {cs:St} {K:Value→SP} {t i ty off:Nat} {xs:List Value} {v:Value} {fs:List (Bool×Nat×Nat)} [p:StrF t fs] [n:NthF fs i ty off] [k:Plk ty] [g:Get xs off v]:Go1 (qy (Instr.field t (.agg ⟨xs⟩) i) K cs) (K v cs):=⟨fun h=>by
 obtain⟨h1,h2⟩:=strF_facts p
 obtain⟨b,hb⟩:=n.h
 refine⟨v,fun E w _=> ?_,h⟩
 have g1:(⟨xs⟩:Array Value)[off]? =some v:=by simpa using g.h
 rw [←h2,List.getElem?_map]at hb
 obtain⟨f,hf,hk⟩:=Option.map_eq_some_iff.1 hb
 have hf':(Tryz.prog.fieldsOf t)[i]? =some f:=by simpa using hf
 simp only [fKey,Prod.mk.injEq]at hk
 obtain⟨_,rfl,rfl⟩:=hk
 have e1:(asAgg (.agg ⟨xs⟩)).run Tryz.prog w= .ok ⟨xs⟩ w:=rfl
 simp [Instr.field,run_under h1,hf',e1,run_part_plain w k.h g1]⟩
instance:StrF 97 [(true,3,0),(true,9,1),(true,2,2),(true,3,3),(true,95,4),(true,3,5),(true,3,6)]:=⟨by kernel_rfl⟩
instance fdArm0:FdS encArm 0 ArmM.pat:=⟨fun _=>rfl⟩
section
variable {cs:St} {K:Value→SP}
instance c397 {a a':Option Addr} {n c n' c':Nat} {l l':List ArmM} [r:Rw 146 2 cs a n c encArm l] [r':Rw 146 2 cs a' n' c' encArm l']:Go1 (fn 397 [.slice a n c,.slice a' n' c'] K cs) ((n≤1000000000∧n'≤1000000000)∧K (.bool (sameL l l')) cs):=⟨fun⟨⟨hn,hn'⟩,h⟩=>f397 (by
 unfold s397
 have h1:=r.h.len
 have h2:=r'.h.len
 have hne:∀l l':List ArmM,l.length≠l'.length→sameL l l'=false:=by
  intro l
  induction l with
  | nil=>intro l' h;cases l' with
   | nil=>exact absurd rfl h
   | cons=>rfl
  | cons x l ih=>intro l' h;cases l' with
   | nil=>rfl
   | cons y l'=>simp only [sameL];rw [ih l' (by simpa using h)];simp
 refine go ?_
 simp only [bne_iff_ne,ne_eq,bne_eq_false_iff_eq]
 refine⟨fun c0=> ?_,fun c0=> ?_⟩
 ·rw [hne l l' (by omega)]at h;exact h
 ·refine lp (fun i:Nat=>[.int .i64 i]) (fun _=>cs) (fun i=>i≤n∧sameL (l.drop i) (l'.drop i)=sameL l l') (fun i=>n-i) 0 rfl (Imp.refl _) ⟨Nat.zero_le _,rfl⟩ ?_
  rintro i ⟨i1,i2⟩
  refine go ?_
  simp only [decide_eq_true_eq,decide_eq_false_iff_not,Int.toNat_natCast]
  refine⟨fun c1=>⟨by omega,fun x hx=>⟨by omega,fun y hy=> ?_⟩⟩,fun c1=> ?_⟩
  ·have e1:l.drop i=x::l.drop (i+1):=by
    have hi:=lt_of_get hx
    rw [List.drop_eq_getElem_cons hi];rw [List.getElem?_eq_getElem hi]at hx;rw [Option.some.inj hx]
   have e2:l'.drop i=y::l'.drop (i+1):=by
    have hi:=lt_of_get hy
    rw [List.drop_eq_getElem_cons hi];rw [List.getElem?_eq_getElem hi]at hy;rw [Option.some.inj hy]
   rw [e1,e2,sameL]at i2
   have e3:(x.pat == y.pat&&(x.to == y.to&&true))=sameA x y:=by simp [sameA]
   simp only [e3]
   rw [w64_succ (by omega)]
   refine go ⟨fun c2=> ?_,fun c2=>⟨i+1,rfl,Imp.refl _,⟨by omega,?_⟩,by omega⟩⟩
   ·have:sameA x y=false:=by simpa using c2
    rw [this]at i2
    rw [←i2]at h;exact h
   ·have:sameA x y=true:=by simpa using c2
    rw [this]at i2
    simpa using i2
  ·have e1:l.drop i=[]:=List.drop_eq_nil_of_le (by omega)
   have e2:l'.drop i=[]:=List.drop_eq_nil_of_le (by omega)
   rw [e1,e2,sameL]at i2
   rw [←i2]at h;exact h)⟩
instance c290 {a b c:Int}:Go1 (fn 290 [.int .i64 a,.int .i64 b,.int .i64 c] K cs) (K (.bool (within a b c)) cs):=⟨fun h=>f290 (by
 unfold s290
 refine go ⟨fun c0=>keq h ?_,fun c0=>keq h ?_⟩ <;>simp_all [within]
 omega)⟩
instance c291 {a b c:Int}:Go1 (fn 291 [.int .i64 a,.int .i64 b,.int .i64 c] K cs) (K (.bool (within a b c)) cs):=⟨fun h=>f291 (by
 unfold s291
 refine go ⟨fun c0=>keq h ?_,fun c0=>keq h ?_⟩ <;>simp_all [within]
 omega)⟩
theorem all_get {s:List UInt8} {f:UInt8→Bool} {i:Nat} {x:UInt8} (hx:s[i]? =some x) (h:f x=false):s.all f=false:=by
 rw [List.all_eq_false];exact⟨x,List.mem_of_getElem? hx,by simp [h]⟩
theorem sat_get {s:ByteArray} {i:Nat} (h:i<s.size):∃x:UInt8,(bl s)[i]? =some x∧sat s (i:Int)=(x.toNat:Int):=by
 have h':i<(bl s).length:=h
 refine⟨(bl s)[i],List.getElem?_eq_getElem h',?_⟩
 unfold sat
 rw [Int.toNat_natCast,Array.getD_eq_getD_getElem?,Array.getElem?_eq_getElem (show i<s.data.size from h)]
 rfl
instance c289 {s:ByteArray}:Go1 (fn 289 [.string s] K cs) (K (.bool (nameOk (bl s))) cs):=⟨fun h=>f289 (by
 unfold s289
 have hlen:=bl_length s
 refine⟨fun _ c=>Imp c cs∧0<s.size∧s.size≤16∧97≤((bl s).getD 0 0).toNat,?_,?_⟩
 ·rintro l c ⟨hi,h1,h2,h3⟩
  refine⟨cs,hi,?_⟩
  have e0:∀b,((bl s).all fun c=> !((decide (c.toNat<97)||decide (c.toNat>122))&&(decide (c.toNat<48)||decide (c.toNat>57))))=b→nameOk (bl s)=b:=by
   intro b hb
   unfold nameOk
   rw [hb]
   have g1:decide (0<(bl s).length)=true:=by simp [hlen,h1]
   have g2:decide ((bl s).length≤16)=true:=by simp [hlen,h2]
   have g3:decide (97≤((bl s).getD 0 0).toNat)=true:=by simpa using h3
   rw [g1,g2,g3];rfl
  refine lp (fun i:Nat=>[.int .i64 i]) (fun _=>cs) (fun i=>i≤s.size∧∀j,j<i→∀x,(bl s)[j]? =some x→(!((decide (x.toNat<97)||decide (x.toNat>122))&&(decide (x.toNat<48)||decide (x.toNat>57))))=true) (fun i=>s.size-i) 0 rfl (Imp.refl _) ⟨Nat.zero_le _,fun j hj=>absurd hj (Nat.not_lt_zero _)⟩ ?_
  rintro i ⟨i1,i2⟩
  refine go ?_
  simp only [decide_eq_true_eq,decide_eq_false_iff_not]
  refine⟨fun c0=> ?_,fun c0=> ?_⟩
  ·obtain⟨x,hx,hs⟩:=sat_get (s:=s) (i:=i) (by omega)
   rw [hs,w64_succ (by omega)]
   have nx:∀g:(!((decide (x.toNat<97)||decide (x.toNat>122))&&(decide (x.toNat<48)||decide (x.toNat>57))))=true,∃x',[Value.int .i64 ((i+1:Nat):Int)]=[Value.int .i64 ((x':Nat):Int)]∧Imp cs cs∧(x'≤s.size∧∀j,j<x'→∀y,(bl s)[j]? =some y→(!((decide (y.toNat<97)||decide (y.toNat>122))&&(decide (y.toNat<48)||decide (y.toNat>57))))=true)∧s.size-x'<s.size-i:=by
    intro g
    refine⟨i+1,rfl,Imp.refl _,⟨by omega,fun j hj y hy=> ?_⟩,by omega⟩
    rcases Nat.lt_succ_iff_lt_or_eq.1 hj with hj | hj
    ·exact i2 j hj y hy
    ·subst hj;rw [hx]at hy;cases hy;exact g
   have no:(!((decide (x.toNat<97)||decide (x.toNat>122))&&(decide (x.toNat<48)||decide (x.toNat>57))))=false→K (.bool false) cs:=by
    intro g
    have:=h;rw [e0 false (all_get hx g)]at this;exact this
   refine⟨⟨by omega,by omega⟩,fun c1=>⟨⟨by omega,by omega⟩,fun c2=>no ?_,fun c2=>⟨⟨by omega,by omega⟩,fun c3=>no ?_,fun c3=>nx ?_⟩⟩,fun c1=>⟨⟨by omega,by omega⟩,fun c4=>⟨⟨by omega,by omega⟩,fun c2=>no ?_,fun c2=>⟨⟨by omega,by omega⟩,fun c3=>no ?_,fun c3=>nx ?_⟩⟩,fun c4=>nx ?_⟩⟩
   all_goals simp only [Bool.not_eq_true',Bool.not_eq_false',Bool.and_eq_true,Bool.or_eq_true,decide_eq_true_eq,Bool.and_eq_false_iff,Bool.or_eq_false_iff,decide_eq_false_iff_not]
   all_goals omega
  ·have:(bl s).all (fun c=> !((decide (c.toNat<97)||decide (c.toNat>122))&&(decide (c.toNat<48)||decide (c.toNat>57))))=true:=by
    rw [List.all_eq_true]
    intro x hx
    obtain⟨j,hj,rfl⟩:=List.mem_iff_getElem.1 hx
    exact i2 j (by rw [hlen]at hj;omega) _ (List.getElem?_eq_getElem hj)
   rw [e0 true this]at h;exact h
 ·refine go ?_
  simp only [decide_eq_true_eq,decide_eq_false_iff_not,size0]
  refine⟨fun c0=> ?_,fun c0=>⟨fun c1=> ?_,fun c1=>⟨⟨by omega,by omega⟩,fun c2=> ?_,fun c2=>⟨Imp.refl _,by omega,by omega,?_⟩⟩⟩⟩
  ·have:nameOk (bl s)=false:=by
    unfold nameOk
    have:decide (0<(bl s).length)=false:=by simp [hlen,c0]
    rw [this];rfl
   rw [this]at h;exact h
  ·have:nameOk (bl s)=false:=by
    unfold nameOk
    have:decide ((bl s).length≤16)=false:=by rw [decide_eq_false_iff_not,hlen];omega
    rw [this];simp
   rw [this]at h;exact h
  ·obtain⟨x,hx,hs⟩:=sat_get (s:=s) (i:=0) (by omega)
   have hg:(bl s).getD 0 0=x:=by rw [List.getD_eq_getElem?_getD,hx];rfl
   have:nameOk (bl s)=false:=by
    unfold nameOk
    have:decide (97≤((bl s).getD 0 0).toNat)=false:=by
     rw [decide_eq_false_iff_not,hg]
     have hs:sat s 0=(x.toNat:Int):=hs
     omega
    rw [this];simp
   rw [this]at h;exact h
  ·obtain⟨x,hx,hs⟩:=sat_get (s:=s) (i:=0) (by omega)
   have hg:(bl s).getD 0 0=x:=by rw [List.getD_eq_getElem?_getD,hx];rfl
   rw [hg]
   have hs:sat s 0=(x.toNat:Int):=hs
   omega)⟩
instance c360 {v:List Value} {p:PrM} {t:Int} [r:PrR cs v p]:Go1 (fn 360 [.agg ⟨v⟩,.int .i64 t] K cs) (K (.bool (comes p t)) cs):=⟨fun h=>up0 (f360 (by
 obtain⟨a,n,c,L,rfl,h2,h3,h4⟩:=r.h
 unfold s360
 have hn:p.ops.length=n:=by rw [←h3,List.length_map,h2.len]
 refine go fun b1=>⟨fun c0=>fin (keq h ?_),fun c0=>fin (keq h ?_)⟩
 ·simp_all [comes]
 ·simp_all [comes]
  intro _;omega))⟩
instance c358 {v:List Value} {o:OpM} [r:OpR cs v o]:Go1 (fn 358 [.agg ⟨v⟩] K cs) (∀v',OpR cs v' (bareO o)→K (.agg ⟨v'⟩) cs):=⟨fun h=>up0 (f358 (by
 obtain⟨a,n,c,rfl,h2⟩:=r.h
 unfold s358
 have fn':∀(a':Option Addr) (n' c':Nat),RdS cs encArm a' n' c' (bareO o).arms→OpR cs (opCells (bareO o) a' n' c') (bareO o):=fun a' n' c' hr=>⟨a',n',c',rfl,hr⟩
 refine go fun b1 b2 b3=> ?_
 simp only [beq_iff_eq,beq_eq_false_iff_ne,ne_eq]
 refine⟨fun c1=> ?_,fun c1=>⟨fun c2=> ?_,fun c2=>⟨fun c3=> ?_,fun c3=>⟨fun c4=> ?_,fun c4=> ?_⟩⟩⟩⟩
 ·refine fin (h _ ⟨none,0,0,?_,?_⟩)
  ·simp [bareO,c1,opCells,OpM.zero]
  ·simp [bareO,c1,OpM.zero];exact rds_nil
 ·refine fin (h _ ⟨a,n,c,?_,?_⟩)
  ·simp [bareO,c1,c2,opCells,OpM.zero];rfl
  ·simp [bareO,c1,c2,OpM.zero];exact h2
 ·refine fin (h _ ⟨none,0,0,?_,?_⟩)
  ·simp [bareO,c1,c2,c3,opCells,OpM.zero];rfl
  ·simp [bareO,c1,c2,c3,OpM.zero];exact rds_nil
 ·refine fin (h _ ⟨none,0,0,?_,?_⟩)
  ·simp [bareO,c1,c2,c3,c4,opCells,OpM.zero];rfl
  ·simp [bareO,c1,c2,c3,c4,OpM.zero];exact rds_nil
 ·refine fin (h _ ⟨none,0,0,?_,?_⟩)
  ·simp [bareO,c1,c2,c3,c4,opCells,OpM.zero];rfl
  ·simp [bareO,c1,c2,c3,c4,OpM.zero];exact rds_nil))⟩
instance c357 {v v':List Value} {o o':OpM} [r:OpR cs v o] [r':OpR cs v' o']:Go1 (fn 357 [.agg ⟨v⟩,.agg ⟨v'⟩] K cs) ((o.arms.length≤1000000000∧o'.arms.length≤1000000000)∧K (.bool (sameO o o')) cs):=⟨fun⟨hl,h⟩=>up0 (f357 (by
 obtain⟨a,n,c,rfl,h2⟩:=r.h
 obtain⟨a',n',c',rfl,h2'⟩:=r'.h
 have rw1:Rw 146 2 cs a n c encArm o.arms:=⟨h2⟩
 have rw2:Rw 146 2 cs a' n' c' encArm o'.arms:=⟨h2'⟩
 have hn:=h2.len
 have hn':=h2'.len
 unfold s357
 refine goj fun b1 b2=> ?_
 simp only [bl_eq]
 repeat' (first | apply And.intro | intro _)
 all_goals first | omega | skip
 all_goals (refine fin (keq h ?_);simp_all [sameO])))⟩
instance c398 {v:List Value} {p:PrM} {m:ArmM} [r:PrR cs v p]:Go1 (fn 398 [.agg ⟨v⟩,.agg ⟨[.string m.pat,.int .i64 m.to]⟩] K cs) (m.pat.size≤1000000000000∧K (.int .i64 (armE p m)) cs):=⟨fun⟨hm,h⟩=>up0 (f398 (by
 obtain⟨a,n,c,L,hv,h2,h3,h4⟩:=r.h
 subst hv
 unfold s398
 refine go fun b1 b2=> ?_
 simp only [gt_iff_lt,decide_eq_true_eq,decide_eq_false_iff_not]
 refine⟨fun c0=>fin (keq h ?_),fun c0=>⟨hm,?_⟩⟩
 ·have:m.pat.size>64:=by omega
  simp [armE,this]
 ·have e0:¬m.pat.size>64:=by omega
  unfold armE at h
  rw [if_neg e0]at h
  unfold checkV
  have e1:bl m.pat=m.pat.data.toList:=rfl
  rw [e1]
  cases hp:pCompile m.pat.data.toList with
  | error x=>
   obtain⟨k,e⟩:=x
   rw [hp]at h
   dsimp only at h ⊢
   refine go ⟨fun c1=>fin h,fun c1=>absurd ?_ (pCompile_err hp)⟩
   simpa using c1
  | ok l=>
   rw [hp]at h
   dsimp only at h ⊢
   refine go ⟨fun c1=>(by simp at c1),fun _=>⟨fun c1=>fin (keq h ?_),fun c1=>fin (keq h ?_)⟩⟩
   ·have:comes p m.to=false:=by simpa using c1
    simp [this]
   ·have:comes p m.to=true:=by simpa using c1
    simp [this]))⟩
theorem pr_first {α:Type} (f:α→Int) {l:List α} {i:Nat} {x:α} (hx:l[i]? =some x):firstE ((l.drop i).map f)=if f x≠0 then f x else firstE ((l.drop (i+1)).map f):=by
 have hi:=lt_of_get hx
 rw [List.drop_eq_getElem_cons hi]
 rw [List.getElem?_eq_getElem hi]at hx
 rw [Option.some.inj hx,List.map_cons,firstE]
instance c359 {v v':List Value} {p:PrM} {o:OpM} [r:PrR cs v p] [r':OpR cs v' o]:Go1 (fn 359 [.agg ⟨v⟩,.agg ⟨v'⟩] K cs) (o.Fit∧K (.int .i64 (expE p o)) cs):=⟨fun⟨⟨_,_,hm⟩,h⟩=>up0 (f359 (by
 obtain⟨a,n,c,L,hv,h2,h3,h4⟩:=r.h
 obtain⟨a',n',c',hv',h2'⟩:=r'.h
 subst hv
 subst hv'
 have rw1:Rw 146 2 cs a' n' c' encArm o.arms:=⟨h2'⟩
 have hn':=h2'.len
 unfold s359
 refine go fun b1 b2=> ?_
 have key:o.arms.length≤8→¬(o.n≠never∧within o.n 0 1000000000000=false)→expE p o=if firstE (o.arms.map (armE p))≠0 then firstE (o.arms.map (armE p))else firstE [jumpE p o.onT,jumpE p o.onE]:=by
  intro k1 k2
  unfold expE
  rw [if_neg k2,if_neg (by omega)]
 refine⟨fun _ cx=>Imp cx (bk b2 97 (opCells o a' n' c')::bk b1 45 (prCells p a n c)::cs)∧o.arms.length≤8∧¬(o.n≠never∧within o.n 0 1000000000000=false),?_,?_⟩
 ·rintro l c1 ⟨hi,k1,k2⟩
  refine⟨_,hi,?_⟩
  rw [key k1 k2]at h
  refine go ?_
  refine lp (fun i:Nat=>[.int .i64 i]) (fun _=>bk b2 97 (opCells o a' n' c')::bk b1 45 (prCells p a n c)::cs) (fun i=>i≤n'∧firstE ((o.arms.drop i).map (armE p))=firstE (o.arms.map (armE p))) (fun i=>n'-i) 0 rfl (Imp.refl _) ⟨Nat.zero_le _,rfl⟩ ?_
  rintro i ⟨i1,i2⟩
  refine go ?_
  simp only [decide_eq_true_eq,decide_eq_false_iff_not,Int.toNat_natCast]
  refine⟨fun c0=>⟨by omega,fun m hmm b3=>⟨hm m (List.mem_of_getElem? hmm),fun c2=> ?_,fun c2=> ?_⟩⟩,fun c0=> ?_⟩
  ·rw [pr_first _ hmm,if_pos (by simpa using c2)]at i2
   rw [←i2,if_pos (by simpa using c2)]at h
   exact fin h
  ·have g:armE p m=0:=by simpa using c2
   rw [pr_first _ hmm,if_neg (by simp [g])]at i2
   rw [w64_succ (by omega)]
   exact⟨i+1,rfl,drp,⟨by omega,i2⟩,by omega⟩
  ·have e0:o.arms.drop i=[]:=List.drop_eq_nil_of_le (by omega)
   rw [e0,List.map_nil,firstE]at i2
   rw [←i2,if_neg (by simp)]at h
   refine⟨by omega,fun b3=> ?_⟩
   refine lp (fun i:Nat=>[.int .i64 i]) (fun _=>bk b3 3 (List.map (Value.int .i64) [o.onT,o.onE])::bk b2 97 (opCells o a' n' c')::bk b1 45 (prCells p a n c)::cs) (fun i=>i≤2∧firstE ((([o.onT,o.onE]:List Int).drop i).map (jumpE p))=firstE [jumpE p o.onT,jumpE p o.onE]) (fun i=>2-i) 0 rfl (Imp.refl _) ⟨by omega,rfl⟩ ?_
   rintro i ⟨j1,j2⟩
   refine go ?_
   simp only [decide_eq_true_eq,decide_eq_false_iff_not,Int.toNat_natCast]
   refine⟨fun c5=>⟨by omega,by simp only [List.length_cons,List.length_nil];omega,?_⟩,fun c5=> ?_⟩
   ·have hi2:i<([o.onT,o.onE]:List Int).length:=by simp only [List.length_cons,List.length_nil];omega
    obtain⟨x,hx⟩:∃x,([o.onT,o.onE]:List Int)[i]? =some x:=⟨_,List.getElem?_eq_getElem hi2⟩
    have hg:([o.onT,o.onE]:List Int).getD i 0=x:=by rw [List.getD_eq_getElem?_getD,hx];rfl
    rw [hg]
    rw [pr_first _ hx]at j2
    rw [w64_succ (by omega)]
    simp only [bne_iff_ne,ne_eq,bne_eq_false_iff_eq,Bool.not_eq_true',Bool.not_eq_false']
    refine⟨fun c6=>⟨fun c7=> ?_,fun c7=>⟨i+1,rfl,drp,⟨by omega,?_⟩,by omega⟩⟩,fun c6=>⟨i+1,rfl,drp,⟨by omega,?_⟩,by omega⟩⟩
    ·have g:jumpE p x=13:=by unfold jumpE;rw [if_pos ⟨c6,c7⟩]
     rw [g,if_pos (by decide)]at j2
     rw [←j2]at h
     exact fin h
    ·have g:jumpE p x=0:=by unfold jumpE;rw [if_neg];simp [c7]
     rw [g,if_neg (by decide)]at j2
     exact j2
    ·have g:jumpE p x=0:=by unfold jumpE;rw [if_neg];simp [c6]
     rw [g,if_neg (by decide)]at j2
     exact j2
   ·have e1:([o.onT,o.onE]:List Int).drop i=[]:=List.drop_eq_nil_of_le (by simp only [List.length_cons,List.length_nil];omega)
    rw [e1,List.map_nil,firstE]at j2
    rw [←j2]at h
    exact fin h
 ·refine go ?_
  simp only [bne_iff_ne,ne_eq,bne_eq_false_iff_eq,Bool.not_eq_true',Bool.not_eq_false',gt_iff_lt,decide_eq_true_eq,decide_eq_false_iff_not]
  refine⟨fun c1=>⟨fun c2=>fin (keq h ?_),fun c2=>⟨fun c3=>fin (keq h ?_),fun c3=>⟨Imp.refl _,by omega,?_⟩⟩⟩,fun c1=>⟨fun c3=>fin (keq h ?_),fun c3=>⟨Imp.refl _,by omega,?_⟩⟩⟩
  ·unfold expE;rw [if_pos ⟨c1,c2⟩]
  ·unfold expE;rw [if_neg (by simp [c2]),if_pos (by omega)]
  ·simp [c2]
  ·unfold expE;rw [if_neg (by simp [c1]),if_pos (by omega)]
  ·simp [c1]))⟩
instance c292 {v v':List Value} {p:PrM} {o:OpM} [r:PrR cs v p] [r':OpR cs v' o]:Go1 (fn 292 [.agg ⟨v⟩,.agg ⟨v'⟩] K cs) (o.Fit∧K (.int .i64 (opE p o)) cs):=⟨fun⟨hf,h⟩=>up0 (f292 (by
 obtain⟨a,n,c,L,hv,h2,h3,h4⟩:=r.h
 obtain⟨a',n',c',hv',h2'⟩:=r'.h
 subst hv
 subst hv'
 unfold s292
 refine goj fun b1 b2=>⟨fun c1=> ?_,fun c1=>⟨fun c2=> ?_,fun c2 v' rv=> ?_⟩⟩
 ·have:o.kind<1:=by simpa using c1
  exact fin (keq h (by unfold opE;rw [if_pos (.inl this)]))
 ·have:o.kind>6:=by simpa using c2
  exact fin (keq h (by unfold opE;rw [if_pos (.inr this)]))
 ·have g0:¬(o.kind<1∨o.kind>6):=by simp at c1 c2;omega
  have hb:(bareO o).arms.length≤1000000000:=by
   have:=hf.2.1
   unfold bareO
   repeat' split
   all_goals simp [OpM.zero]
   all_goals exact this
  unfold opE at h
  rw [if_neg g0]at h
  refine go ?_
  simp only [size0,beq_iff_eq,beq_eq_false_iff_ne,ne_eq,bne_iff_ne,bne_eq_false_iff_eq,Bool.not_eq_true',Bool.not_eq_false',gt_iff_lt,decide_eq_true_eq,decide_eq_false_iff_not]
  refine⟨⟨hf.2.1,hb⟩,fun c3=> ?_,fun c3=> ?_⟩
  ·rw [if_pos c3]at h;exact fin h
  ·rw [if_neg (by simp [c3])]at h
   refine⟨fun c4=>⟨fun c5=> ?_,fun c5=>⟨fun c6=> ?_,fun c6=> ?_⟩⟩,fun c4=>⟨fun c5=>⟨hf,?_⟩,fun c5=>⟨fun c6=>⟨fun c7=> ?_,fun c7=> ?_⟩,fun c6=>⟨fun c7=>⟨fun c8=> ?_,fun c8=> ?_⟩,fun c7=> ?_⟩⟩⟩⟩
   ·rw [if_pos c4,if_pos c5]at h;exact fin h
   ·rw [if_pos c4,if_neg c5,if_pos (by omega)]at h;exact fin h
   ·rw [if_pos c4,if_neg c5,if_neg (by omega)]at h;exact fin h
   ·rw [if_neg c4,if_pos c5]at h;exact fin h
   ·rw [if_neg c4,if_neg c5,if_pos c6,if_pos c7]at h;exact fin h
   ·rw [if_neg c4,if_neg c5,if_pos c6,if_neg (by simp [c7])]at h;exact fin h
   ·rw [if_neg c4,if_neg c5,if_neg c6,if_pos c7,if_pos c8]at h;exact fin h
   ·rw [if_neg c4,if_neg c5,if_neg c6,if_pos c7,if_neg (by simp [c8])]at h;exact fin h
   ·rw [if_neg c4,if_neg c5,if_neg c6,if_neg c7]at h;exact fin h))⟩
instance c190 {v:List Value} {p:PrM} [r:PrR cs v p]:Go1 (fn 190 [.agg ⟨v⟩] K cs) (p.Fit∧∀i,K (.tuple ⟨[.int .i64 i,.int .i64 (wrongE p)]⟩) cs):=⟨fun⟨⟨hf1,hf2,hf3⟩,h⟩=>up0 (f190 (by
 obtain⟨a,n,c,L,hv,h2,h3,h4⟩:=r.h
 subst hv
 have rw1:Rw 97 7 cs a n c encOp L:=⟨h2⟩
 have hn:=h2.len
 have hn':p.ops.length=n:=by rw [←h3,List.length_map,hn]
 unfold s190
 refine go fun b1=> ?_
 refine⟨fun _ cx=>Imp cx (bk b1 45 (prCells p a n c)::cs)∧wrongE p=firstE (p.ops.map (opE p)),?_,?_⟩
 ·rintro l c1 ⟨hi,k1⟩
  refine⟨_,hi,?_⟩
  rw [k1]at h
  refine go ?_
  refine lp (fun i:Nat=>[.int .i64 i]) (fun _=>bk b1 45 (prCells p a n c)::cs) (fun i=>i≤n∧firstE ((p.ops.drop i).map (opE p))=firstE (p.ops.map (opE p))) (fun i=>n-i) 0 rfl (Imp.refl _) ⟨Nat.zero_le _,rfl⟩ ?_
  rintro i ⟨i1,i2⟩
  refine go ?_
  simp only [decide_eq_true_eq,decide_eq_false_iff_not,Int.toNat_natCast]
  refine⟨fun c0=>⟨by omega,fun x hx b3=> ?_⟩,fun c0=> ?_⟩
  ·have ho:p.ops[i]? =some x.1:=by rw [←h3,List.getElem?_map,hx];rfl
   have hor:OpR cs (opCells x.1 x.2.1 x.2.2.1 x.2.2.2) x.1:=⟨_,_,_,rfl,h4 x (List.mem_of_getElem? hx)⟩
   rw [pr_first _ ho]at i2
   rw [w64_succ (by omega)]
   refine go ⟨hf3 _ (List.mem_of_getElem? ho),fun c2=> ?_,fun c2=> ?_⟩
   ·rw [if_pos (by simpa using c2)]at i2
    rw [←i2]at h
    exact fin (h _)
   ·rw [if_neg (by simpa using c2)]at i2
    exact⟨i+1,rfl,drp,⟨by omega,i2⟩,by omega⟩
  ·have e0:p.ops.drop i=[]:=List.drop_eq_nil_of_le (by omega)
   rw [e0,List.map_nil,firstE]at i2
   rw [←i2]at h
   exact fin (h _)
 ·have e1:bl p.name=p.name.data.toList:=rfl
  refine go ?_
  simp only [e1,bne_iff_ne,ne_eq,bne_eq_false_iff_eq,Bool.not_eq_true',Bool.not_eq_false',gt_iff_lt,decide_eq_true_eq,decide_eq_false_iff_not]
  unfold wrongE at h
  refine⟨fun c1=> ?_,fun c1=> ?_⟩
  ·rw [if_pos c1]at h;exact fin (h _)
  ·rw [if_neg (by simp [c1])]at h
   refine⟨fun c2=>⟨fun c3=> ?_,fun c3=>⟨fun c4=> ?_,fun c4=>⟨fun c5=> ?_,fun c5=>⟨Imp.refl _,?_⟩⟩⟩⟩,fun c2=>⟨fun c4=> ?_,fun c4=>⟨fun c5=> ?_,fun c5=>⟨Imp.refl _,?_⟩⟩⟩⟩
   ·rw [if_pos (.inl ⟨c2,c3⟩)]at h;exact fin (h _)
   ·rw [if_pos (.inr c4)]at h;exact fin (h _)
   ·rw [if_neg (by simp [c3,c4]),if_pos (by omega)]at h;exact fin (h _)
   ·unfold wrongE;rw [if_neg (by simp [c1]),if_neg (by simp [c3,c4]),if_neg (by omega)]
   ·rw [if_pos (.inr c4)]at h;exact fin (h _)
   ·rw [if_neg (by simp [c2,c4]),if_pos (by omega)]at h;exact fin (h _)
   ·unfold wrongE;rw [if_neg (by simp [c1]),if_neg (by simp [c2,c4]),if_neg (by omega)]))⟩
instance c118 {v:List Value} {p:PrM} [r:PrR cs v p]:Go1 (fn 118 [.agg ⟨v⟩] K cs) (p.Fit∧K (.bool (goodP p)) cs):=⟨fun⟨hf,h⟩=>up0 (f118 (by
 obtain⟨a,n,c,L,hv,h2,h3,h4⟩:=r.h
 subst hv
 unfold s118
 refine go fun b1=>⟨hf,fun i=>fin h⟩))⟩
theorem clone_row {α:Type} {T sz by_ t n c:Nat} {a:Option Addr} {e:Enc α sz} {l:List α} (p:SlcT t T sz by_) (r:Rw T sz cs a n c e l) (hone:∀x∈l,∀u∈e.f x,one u=true) (hn:n*by_≤140737488355328∧n≤9223372036854775807)
  (h:∀a' c' ch',Row T sz a' n c' e l ch'→K (.slice a' n c') (ch'::cs)):
  br (a.isNone) (Up K (.slice none 0 0)) (sm (Instr.buildSlice t 0 (Array.mk []))<|fun v0=>unL v0 fun a1 n2 c3=>sm (Builtin.append_ (Array.mk [t,t]) t (Array.mk [.slice a1 n2 c3,.slice a n c]))<|fun v4=>unL v4 fun a5 n6 c7=>Up K (.slice a5 n6 c7)) cs:=by
 have hlen:=r.h.len
 have hnil:n=0→l=[]:=fun h0=>List.length_eq_zero_iff.1 (by omega)
 refine br_of (fun hc=> ?_) (fun hc=> ?_)
 ·have h0:n=0:=by
   rcases Nat.eq_zero_or_pos n with h | h
   ·exact h
   ·obtain⟨b,_,_,_,h1,_⟩:=r.h.get h
    rw [h1]at hc;cases hc
  subst h0
  have hh:=h none 0 [] (by rw [hnil rfl];exact⟨Sl.nil⟩)
  exact⟨_,Imp.of_sub (l:=[]) (by simp),hh⟩
 ·refine go ⟨by simp,fun b1=> ?_⟩
  by_cases h0:n=0
  ·subst h0
   refine app_zero p (Nat.le_refl _) (go ?_)
   have hh:=h (some (ad b1 0)) 0 [] (by rw [hnil rfl];exact⟨Sl.nil⟩)
   exact⟨_,drp,hh⟩
  ·obtain⟨b,rfl,hr⟩:=rows_reads (r.h.cons (d:=bk b1 T [])) (by omega)
   refine app_at 0 rfl (Sl.nil (T:=T) (sz:=sz)) (bytes:=by_) (news:=l.flatMap e.f) (by rw [e.flat_len,←hlen]) hr (fun u hu=> ?_) (by omega) (by rw [Nat.zero_add];exact hn.1) (by omega) (fun v' ch' hs=> ?_) p.h
   ·obtain⟨x,hx,hu⟩:=List.mem_flatMap.1 hu
    exact hone x hx u hu
   ·obtain⟨a',c',rfl⟩:=hs.val
    simp only [List.set_cons_zero,Nat.zero_add,List.nil_append]at hs ⊢
    exact go ⟨_,drp,h a' c' ch' ⟨hs⟩⟩
instance c140 {n c:Nat} {a:Option Addr} {l:List OpV} [r:Rw 97 7 cs a n c encOp l]:Go1 (fn 140 [.slice a n c] K cs) (n≤1000000000∧∀a' c' ch',Row 97 7 a' n c' encOp l ch'→K (.slice a' n c') (ch'::cs)):=⟨fun⟨hn,h⟩=>up0 (f140 (by
 unfold s140
 refine clone_row (by_:=80) inferInstance r (fun x _ u hu=> ?_) (by omega) h
 simp [encOp,opCells]at hu
 rcases hu with rfl | rfl | rfl | rfl | rfl | rfl | rfl <;>rfl))⟩
instance c141 {n c:Nat} {a:Option Addr} {l:List ArmM} [r:Rw 146 2 cs a n c encArm l]:Go1 (fn 141 [.slice a n c] K cs) (n≤1000000000∧∀a' c' ch',Row 146 2 a' n c' encArm l ch'→K (.slice a' n c') (ch'::cs)):=⟨fun⟨hn,h⟩=>up0 (f141 (by
 unfold s141
 refine clone_row (by_:=24) inferInstance r (fun x _ u hu=> ?_) (by omega) h
 simp [encArm]at hu
 rcases hu with rfl | rfl <;>rfl))⟩
class FdL {α:Type} {sz:Nat} (e:Enc α sz) (j:Nat) (f:outParam (α→Option Addr×Nat×Nat)):Prop where
 h:∀x,(e.f x)[j]? =some (.slice (f x).1 (f x).2.1 (f x).2.2)
instance rwL {α:Type} {T sz by_ t t' n c j:Nat} {i:Int} {a:Option Addr} {e:Enc α sz} {l:List α} {f:α→Option Addr×Nat×Nat} {K:Option Addr→Nat→Nat→SP} [p:SlcT t T sz by_] [q:PlT t'] [r:Rw T sz cs a n c e l] [d:FdL e j f]:
  Go1 (ix t (.slice a n c) i (fun p=>ldL t' (p.add j) K) cs) ((0≤i∧i<n)∧∀x,l[i.toNat]? =some x→K (f x).1 (f x).2.1 (f x).2.2 cs):=
 ⟨fun h=>rw_cell p q r.h h.1 d.h fun x hx=>⟨_,_,_,rfl,h.2 x hx⟩⟩
instance fdL4:FdL encOp 4 Prod.snd:=⟨fun _=>rfl⟩
instance rowSetF {α:Type} {T sz by_ t t' n c j:Nat} {i:Int} {a:Option Addr} {e:Enc α sz} {l:List α} {ch:Chunk} {put:Chunk→St} {v:Value} {K:SP} [p:SlcT t T sz by_] [q:SzT t' 1] [r:Row T sz a n c e l ch] [at_:ChAt cs ch put] [o1:One v]:
  Go1 (ix t (.slice a n c) i (fun p=>st t' (p.add j) v K) cs) (((0≤i∧i<n)∧j<sz)∧∀x,l[i.toNat]? =some x→∃y,e.f y=(e.f x).set j v∧∀ch',Row T sz a n c e (l.set i.toNat y) ch'→K (put ch')):=⟨fun⟨⟨hi,hj⟩,h⟩=>by
 have hlen:=r.len
 have hlt:i.toNat<l.length:=by omega
 obtain⟨k,hk,hput⟩:=at_.h
 obtain⟨y,hy,hh⟩:=h _ (List.getElem?_eq_getElem hlt)
 obtain⟨rb,o,X,Z,rfl,ho,hch,hrow⟩:=r.split hlt
 refine ix_at hi.1 hi.2 ?_ (slc_ix p)
 rw [add_ad]
 refine st_wr (l:=[v]) (by rw [one_cells o1.h]) (fun u hu=>by rw [List.mem_singleton.1 hu];exact o1.h) (by simp only [List.length_singleton];exact q.h) ⟨k,T,_,by rw [←hch];exact hk,?_,rfl⟩ ?_
 ·have:=e.len l[i.toNat]
  simp only [List.length_append,List.length_singleton];omega
 ·have e5:lay (X++(e.f l[i.toNat]++Z)) (o+i.toNat*sz+j) [v]=X++(e.f y++Z):=by
   have:=e.len l[i.toNat]
   rw [ho,lay_pre X [] j,lay_left _ _ _ _ (by simp only [List.length_singleton];omega),hy]
   rfl
  rw [e5,←hput]
  exact hh _ (hrow y)⟩
structure Sc where
 p:PrM
 a:Option Addr
 n:Nat
 c:Nat
 ch:Chunk
 r:PrR [ch] (prCells p a n c) p
theorem RdS.sub {α:Type} {sz n c:Nat} {cs cs':St} {e:Enc α sz} {a:Option Addr} {l:List α} (h:RdS cs e a n c l) (hm:∀x∈cs.flatten,x∈cs'.flatten):RdS cs' e a n c l:=by
 refine⟨h.len,h.cap,fun hn=> ?_⟩
 obtain⟨b,o,T,cells,h1,h2,h3⟩:=h.get hn
 exact⟨b,o,T,cells,h1,h2.mono hm,h3⟩
instance c82 {v:List Value} {p:PrM} [r:PrR cs v p]:Go1 (fn 82 [.agg ⟨v⟩] K cs) (p.Fit∧∀sc:Sc,sc.p=p→K (.agg ⟨prCells sc.p sc.a sc.n sc.c⟩) (sc.ch::cs)):=⟨fun⟨⟨hf1,hf2,hf3⟩,h⟩=>up0 (f82 (by
 obtain⟨a,n,c,L,hv,h2,h3,h4⟩:=r.h
 subst hv
 have rw1:Rw 97 7 cs a n c encOp L:=⟨h2⟩
 have hn:=h2.len
 have hn':p.ops.length=n:=by rw [←h3,List.length_map,hn]
 unfold s82
 refine go fun b1 b2=>⟨by omega,fun a1 c1 ch1 r1=> ?_⟩
 refine go ?_
 refine lp (fun y:Nat×Chunk×Chunk×List OpV=>[.int .i64 y.1]) (fun y=>bk b2 45 [.string .empty,.int .i64 0,.int .i64 0,.slice none 0 0]::bk b1 45 (prCells p a1 n c1)::y.2.1::y.2.2.1::cs)
  (fun y=>y.1≤n∧Row 97 7 a1 n c1 encOp y.2.2.2 y.2.1∧y.2.2.2.map Prod.fst=p.ops∧(∀j,y.1≤j→y.2.2.2[j]? =L[j]?)∧∀j x,j<y.1→y.2.2.2[j]? =some x→RdS [y.2.2.1] encArm x.2.1 x.2.2.1 x.2.2.2 x.1.arms) (fun y=>n-y.1)
  (0,ch1,[],L) rfl drp ⟨Nat.zero_le _,r1,h3,fun _ _=>rfl,fun j x hj=>absurd hj (Nat.not_lt_zero _)⟩ ?_
 rintro⟨i,chO,g,M⟩ ⟨i1,i2,i3,i4,i5⟩
 dsimp only at *
 have hM:=i2.len
 refine go ?_
 simp only [decide_eq_true_eq,decide_eq_false_iff_not,Int.toNat_natCast]
 refine⟨fun c0=>⟨by omega,fun x hx=> ?_⟩,fun c0=> ?_⟩
 ·have hxL:L[i]? =some x:=by rw [←i4 i (Nat.le_refl _),hx]
  have hxp:p.ops[i]? =some x.1:=by rw [←i3,List.getElem?_map,hx];rfl
  have rwx:Rw 146 2 cs x.2.1 x.2.2.1 x.2.2.2 encArm x.1.arms:=⟨h4 x (List.mem_of_getElem? hxL)⟩
  have hfx:=(hf3 x.1 (List.mem_of_getElem? hxp)).2.1
  have hxn:=rwx.h.len
  refine go ⟨by omega,fun a2 c2 ch2 r2=> ?_⟩
  refine go ⟨⟨by omega,by decide⟩,fun x' hx'=>⟨(x.1,a2,x.2.2.1,c2),?_,fun ch' r'=> ?_⟩⟩
  ·rw [Int.toNat_natCast,hx]at hx';cases hx';rfl
  ·rw [w64_succ (by omega)]
   rw [Int.toNat_natCast]at r'
   have hi:i<M.length:=by omega
   refine⟨(i+1,ch',ch2++g,M.set i (x.1,a2,x.2.2.1,c2)),rfl,drp,⟨by omega,r',?_,fun j hj=> ?_,fun j z hj hz=> ?_⟩,by omega⟩
   ·rw [List.map_set,i3]
    have:(p.ops.set i x.1)=p.ops:=by
     apply List.ext_getElem?
     intro k
     rw [List.getElem?_set]
     split
     ·rename_i hk;subst hk;split
      ·exact hxp.symm
      ·rename_i hk;exact absurd (lt_of_get hxp) hk
     ·rfl
    exact this
   ·rw [List.getElem?_set_ne (by omega)]
    exact i4 j (by omega)
   ·by_cases hji:j=i
    ·subst hji
     rw [List.getElem?_set_self hi]at hz
     cases hz
     have:Rw 146 2 [ch2] a2 x.2.2.1 c2 encArm x.1.arms:=inferInstance
     exact this.h.sub (fun y hy=>by simp at hy ⊢;exact .inl hy)
    ·rw [List.getElem?_set_ne (Ne.symm hji)]at hz
     exact(i5 j z (by omega) hz).sub (fun y hy=>by simp at hy ⊢;exact .inr hy)
 ·have e:i=n:=by omega
  subst e
  have hh:=h ⟨p,a1,i,c1,chO++g,⟨a1,i,c1,M,rfl,?_,i3,fun x hx=> ?_⟩⟩ rfl
  ·exact fin hh
  ·have:Rw 97 7 [chO] a1 i c1 encOp M:=inferInstance
   exact this.h.sub (fun y hy=>by simp at hy ⊢;exact .inl hy)
  ·obtain⟨j,hj,rfl⟩:=List.mem_iff_getElem.1 hx
   exact(i5 j _ (by omega) (List.getElem?_eq_getElem hj)).sub (fun y hy=>by simp at hy ⊢;exact .inr hy)))⟩
end
end Go.Proofs.YtbjlfobjngogkaaGreatDoor
namespace Go.Proofs.YtbjlfobjngogkaaGreatDoor
structure StepM where
 tick:Int
 at_:Int
 what:Int
 arm:Int
 n:Int
 status:Int
 deriving DecidableEq
structure Win where
 b:List UInt8
 seen:Nat
 m:Option Pats
structure Dia where
 s:Setup
 p:PrM
 at_:Int
 status:Int
 jumps:Int
 due:Due
 inq:List UInt8
 win:Win
 out:Wtr
 eof:Bool
 now:Int
def opAt (ops:List OpM) (i:Int):OpM:=ops.getD i.toNat OpM.zero
def Dia.op (d:Dia):OpM:=opAt d.p.ops d.at_
def patsOf (o:OpM):List (List UInt8):=o.arms.map fun m=>m.pat.data.toList
def Win.begin (w:Win) (o:OpM):Win:=match aNew (patsOf o)with
 | .error _=>w
 | .ok m=>⟨w.b,0,some m⟩
def Dia.come (d:Dia) (to:Int):Dia:=
 if(opAt d.p.ops to).kind=1 then{d with at_:=to,due:=d.due.rest,out:=d.out.begin (opAt d.p.ops to).text}
 else if(opAt d.p.ops to).kind=2 then{d with at_:=to,due:=d.due.rest.wait d.now (opAt d.p.ops to).n,win:=d.win.begin (opAt d.p.ops to)}
 else if(opAt d.p.ops to).kind=4 then{d with at_:=to,due:=d.due.rest.wait d.now (opAt d.p.ops to).n}
 else{d with at_:=to,due:=d.due.rest}
def Dia.stop (d:Dia) (st:Int):Dia:={d with status:=st,inq:=[],win:=⟨[],0,none⟩,out:=Wtr.new d.s.out}
def Dia.jump (d:Dia) (x:StepM) (to:Int):StepM×Dia:=
 if to<0 then(x,d.stop 2)
 else if d.jumps≥d.p.jumps then({x with what:=11},d.stop 2)
 else(x,{d with jumps:=d.jumps+1}.come to)
def Dia.runs (d:Dia):Bool:=d.status == 0
def Dia.new (s:Setup) (p:PrM) (now:Int):Dia:=
 Dia.come ⟨s,p,0,0,0,Due.begin (own now) p.dl,[],⟨[],0,none⟩,Wtr.new s.out,false,own now⟩ 0
def Dia.fits (d:Dia):Nat:=d.s.ring.toNat-d.inq.length
def Dia.put (d:Dia) (b:List UInt8):Dia:=if d.runs&& !d.eof then{d with inq:=d.inq++b.take d.fits} else d
def Dia.puts (d:Dia) (b:List UInt8):Nat:=if d.runs&& !d.eof then min b.length d.fits else 0
def Dia.room (d:Dia):Nat:=if d.runs&& !d.eof then d.fits else 0
def Dia.ends (d:Dia):Dia:=if d.runs then{d with eof:=true} else d
def Dia.take (d:Dia) (n:Int):Dia:=if d.runs then{d with out:=d.out.take n} else d
def Dia.taken (d:Dia) (n:Int):ByteArray:=if d.runs then d.out.taken n else .empty
def Dia.cut (d:Dia) (t:Int):Dia:=if d.runs then{d with due:=d.due.cuts t} else d
def Win.fresh (w:Win):Nat:=w.b.length-w.seen
def Dia.readyAt (d:Dia) (now:Int):Bool:=
 if(d.due.over now).2 then true
 else if d.op.kind=1 then d.out.left == 0
 else if d.op.kind=2 then decide (0<d.win.fresh)||(decide (0<d.inq.length)||(d.eof||d.due.woken now))
 else if d.op.kind=4 then d.due.woken now
 else true
def Dia.ready (d:Dia) (now:Int):Bool:=d.runs&&d.readyAt (max now d.now)
def Dia.price (d:Dia):Int:=if d.runs then Go.Proofs.YtbjlfobjngogkaaGreatDoor.price d.s d.op.kind d.win.fresh (if d.op.kind=1 then d.out.rest else d.inq.length)else 0
def Dia.seen (d:Dia) (m:Pats):Fnd×Lk:=hlook d.s.win ⟨d.win.b,d.win.seen,m,d.inq⟩
def Dia.look (d:Dia) (x:StepM) (o:OpM):StepM×Dia:=match d.win.m with
 | none=>(x,d)
 | some m=>
  if(d.seen m).1.mat then{d with win:=⟨(d.seen m).2.b,(d.seen m).2.seen,some (d.seen m).2.m⟩,inq:=(d.seen m).2.r}.jump {x with what:=2,arm:=(d.seen m).1.arm,n:=(d.seen m).1.gone} (o.arms.getD (d.seen m).1.arm ⟨.empty,0⟩).to
  else if(d.seen m).1.full then({x with what:=13,n:=(d.seen m).1.read},{d with win:=⟨(d.seen m).2.b,(d.seen m).2.seen,some (d.seen m).2.m⟩,inq:=(d.seen m).2.r}.stop 4)
  else if d.eof then{d with win:=⟨(d.seen m).2.b,(d.seen m).2.seen,some (d.seen m).2.m⟩,inq:=(d.seen m).2.r}.jump {x with what:=4,n:=(d.seen m).1.read} o.onE
  else if d.due.woken d.now then{d with win:=⟨(d.seen m).2.b,(d.seen m).2.seen,some (d.seen m).2.m⟩,inq:=(d.seen m).2.r}.jump {x with what:=3,n:=(d.seen m).1.read} o.onT
  else({x with what:=1,n:=(d.seen m).1.read},{d with win:=⟨(d.seen m).2.b,(d.seen m).2.seen,some (d.seen m).2.m⟩,inq:=(d.seen m).2.r})
def Dia.send (d:Dia) (x:StepM) (o:OpM):StepM×Dia:=
 if d.out.rest>0 then({x with what:=5,n:=d.out.loads},{d with out:=d.out.load})
 else({x with what:=6,n:=o.text.size},d.come (d.at_+1))
def Dia.does (d:Dia) (x:StepM):StepM×Dia:=
 if(d.due.over d.now).2 then({x with what:=if(d.due.over d.now).1=3 then 12 else 14},d.stop (d.due.over d.now).1)
 else if d.op.kind=1 then d.send x d.op
 else if d.op.kind=2 then d.look x d.op
 else if d.op.kind=3 then d.jump {x with what:=7} d.op.to
 else if d.op.kind=4 then({x with what:=8},d.come (d.at_+1))
 else if d.op.kind=6 then({x with what:=10},d.stop 2)
 else({x with what:=9},d.stop 1)
def Dia.tick (d:Dia) (now:Int):Dia:={d with now:=max d.now now}
def Dia.did (d:Dia) (now:Int):StepM×Dia:=(d.tick now).does ⟨(d.tick now).now,d.at_,0,0,0,0⟩
def Dia.step (d:Dia) (now:Int):Option (StepM×Dia):=
 if d.ready now then some ({(d.did now).1 with status:=(d.did now).2.status},(d.did now).2)else none
def Dia.next (d:Dia):Int:=if d.runs then d.due.first else never
theorem firstE_zero {l:List Int} (h:firstE l=0):∀e∈l,e=0:=by
 induction l with
 | nil=>simp
 | cons a l ih=>
  rw [firstE]at h
  split at h
  ·rename_i h1;exact absurd h h1
  ·rename_i h1
   intro e he
   rcases List.mem_cons.1 he with rfl | he
   ·exact Decidable.not_not.1 h1
   ·exact ih h e he
theorem goodP_facts {p:PrM} (h:goodP p=true):(p.dl=never∨(1≤p.dl∧p.dl≤1000000000000))∧(0≤p.jumps∧p.jumps≤1000)∧p.ops.length≤200∧∀o∈p.ops,opE p o=0:=by
 unfold goodP wrongE at h
 simp only [beq_iff_eq]at h
 split at h
 ·cases h
 ·split at h
  ·cases h
  ·split at h
   ·cases h
   ·rename_i h1 h2 h3
    simp only [within,not_or,not_and,Bool.and_eq_false_iff,decide_eq_false_iff_not]at h2
    refine⟨?_,by omega,by omega,fun o ho=>firstE_zero h _ (List.mem_map_of_mem ho)⟩
    by_cases hd:p.dl=never
    ·exact .inl hd
    ·have:=h2.1 hd;exact .inr (by omega)
theorem opE_facts {p:PrM} {o:OpM} (h:opE p o=0):(1≤o.kind∧o.kind≤6)∧(o.kind=1→0<o.text.size∧o.text.size≤256)∧(o.kind=2→expE p o=0)∧(o.kind=3→comes p o.to=true)∧(o.kind=4→0≤o.n∧o.n≤1000000000000):=by
 unfold opE at h
 split at h
 ·cases h
 ·split at h
  ·cases h
  ·rename_i h1 h2
   refine⟨by omega,fun k=> ?_,fun k=> ?_,fun k=> ?_,fun k=> ?_⟩
   ·rw [if_pos k]at h
    split at h
    ·cases h
    ·split at h
     ·cases h
     ·omega
   ·rw [if_neg (by omega),if_pos k]at h;exact h
   ·rw [if_neg (by omega),if_neg (by omega),if_pos k]at h
    split at h
    ·cases h
    ·simpa using ‹¬comes p o.to=false›
   ·rw [if_neg (by omega),if_neg (by omega),if_neg (by omega),if_pos k]at h
    split at h
    ·cases h
    ·rename_i h3;simp [within]at h3;exact h3
theorem expE_facts {p:PrM} {o:OpM} (h:expE p o=0):(o.n=never∨(0≤o.n∧o.n≤1000000000000))∧o.arms.length≤8∧(∀m∈o.arms,armE p m=0)∧(o.onT= -1∨comes p o.onT=true)∧(o.onE= -1∨comes p o.onE=true):=by
 unfold expE at h
 split at h
 ·cases h
 ·split at h
  ·cases h
  ·split at h
   ·rename_i h1 h2 h3;exact absurd h h3
   ·rename_i h1 h2 h3
    have hj:=firstE_zero h
    have j1:=hj (jumpE p o.onT) (by simp)
    have j2:=hj (jumpE p o.onE) (by simp)
    have jj:∀t,jumpE p t=0→t= -1∨comes p t=true:=by
     intro t ht
     unfold jumpE at ht
     split at ht
     ·cases ht
     ·rename_i h4
      by_cases h5:t= -1
      ·exact .inl h5
      ·right;simpa [h5]using h4
    refine⟨?_,by omega,fun m hm=>firstE_zero (Decidable.not_not.1 h3) _ (List.mem_map_of_mem hm),jj _ j1,jj _ j2⟩
    by_cases hn:o.n=never
    ·exact .inl hn
    ·right
     have:¬within o.n 0 1000000000000=false:=fun hc=>h1 ⟨hn,hc⟩
     simp [within]at this;exact this
theorem armE_facts {p:PrM} {m:ArmM} (h:armE p m=0):m.pat.size≤64∧(∀k e,pCompile m.pat.data.toList= .error (k,e)→e=0)∧((∃l,pCompile m.pat.data.toList= .ok l)→comes p m.to=true):=by
 unfold armE at h
 split at h
 ·cases h
 ·rename_i h1
  refine⟨by omega,fun k e hp=> ?_,fun⟨l,hp⟩=> ?_⟩
  ·rw [hp]at h;exact h
  ·rw [hp]at h
   dsimp only at h
   split at h
   ·assumption
   ·cases h
theorem comes_iff {p:PrM} {t:Int}:comes p t=true↔0≤t∧t≤p.ops.length:=by simp [comes]
theorem opAt_mem {ops:List OpM} {i:Int}:opAt ops i=OpM.zero∨(opAt ops i∈ops∧i.toNat<ops.length):=by
 unfold opAt
 by_cases h:i.toNat<ops.length
 ·right
  rw [List.getD_eq_getElem?_getD,List.getElem?_eq_getElem h]
  exact⟨List.getElem_mem h,h⟩
 ·left
  rw [List.getD_eq_getElem?_getD,List.getElem?_eq_none (by omega)]
  rfl
theorem aGo_len:∀(l:List (List UInt8)) (i:Nat) (out:Pats) {m:Pats},aGo l i out= .ok m→m.length=out.length+l.length
 | [],_,out,m,h=>by rw [aGo]at h;cases h;simp
 | s::l,i,out,m,h=>by
  rw [aGo]at h
  split at h
  ·cases h
  ·have:=aGo_len l _ _ h
   simp at this ⊢;omega
theorem aNew_len {l:List (List UInt8)} {m:Pats} (h:aNew l= .ok m):m.length=l.length:=by
 unfold aNew at h
 split at h
 ·cases h
 ·have:=aGo_len l 0 [] h;simpa using this
theorem aGo_ok:∀(l:List (List UInt8)) (i:Nat) (out:Pats),(∀s∈l,∃q,pCompile s= .ok q)→∃m,aGo l i out= .ok m
 | [],_,out,_=>⟨out,rfl⟩
 | s::l,i,out,h=>by
  obtain⟨q,hq⟩:=h s (by simp)
  rw [aGo,hq]
  exact aGo_ok l _ _ fun t ht=>h t (by simp [ht])
theorem pats_ok {p:PrM} {o:OpM} (h:expE p o=0):∃m,aNew (patsOf o)= .ok m∧m.length=o.arms.length:=by
 obtain⟨_,h2,h3,_⟩:=expE_facts h
 have hl:(patsOf o).length=o.arms.length:=by simp [patsOf]
 obtain⟨m,hm⟩:=aGo_ok (patsOf o) 0 [] fun s hs=>by
  obtain⟨x,hx,rfl⟩:=List.mem_map.1 hs
  have:=(armE_facts (h3 x hx)).2.1
  cases hp:pCompile x.pat.data.toList with
  | error y=>exact absurd (this y.1 y.2 hp) (pCompile_err hp)
  | ok q=>exact⟨q,rfl⟩
 have hn:aNew (patsOf o)= .ok m:=by unfold aNew;rw [if_neg (by omega)];exact hm
 exact⟨m,hn,by rw [aNew_len hn,hl]⟩
theorem arm_comes {p:PrM} {m:ArmM} (h:armE p m=0):comes p m.to=true:=(armE_facts h).2.2 (by
 have:=(armE_facts h).2.1
 cases hp:pCompile m.pat.data.toList with
 | error y=>exact absurd (this y.1 y.2 hp) (pCompile_err hp)
 | ok q=>exact⟨q,rfl⟩)
theorem aFeed_len (m:Pats) (c:Nat):(aFeed m c).length=m.length:=by simp [aFeed]
theorem aFresh_len (m:Pats):(aFresh m).length=m.length:=by simp [aFresh]
theorem aFound_lt {m:Pats} {k:Nat} (h:aFound m=some k):k<m.length:=(List.findIdx?_eq_some_iff_getElem.1 h).1
theorem hLook_len (win:Int):∀(f:Nat) (s:Lk) (rd:Nat),(hLook win f s rd).2.m.length=s.m.length∧((hLook win f s rd).1.mat=true→(hLook win f s rd).1.arm<s.m.length)
 | 0,s,rd=>by simp [hLook]
 | f+1,s,rd=>by
  have key:∀(b r:List UInt8) (rd':Nat),(hFeed (hLook win f) s.m s.seen b r rd').2.m.length=s.m.length∧((hFeed (hLook win f) s.m s.seen b r rd').1.mat=true→(hFeed (hLook win f) s.m s.seen b r rd').1.arm<s.m.length):=by
   intro b r rd'
   unfold hFeed
   cases hf:aFound (aFeed s.m (b.getD s.seen 0).toNat)with
   | none=>
    have:=hLook_len win f ⟨b,s.seen+1,aFeed s.m (b.getD s.seen 0).toNat,r⟩ rd'
    simp only [aFeed_len]at this
    exact this
   | some k=>
    have:=aFound_lt hf
    rw [aFeed_len]at this
    simp only [aFresh_len,aFeed_len]
    exact⟨trivial,fun _=>this⟩
  rw [hLook]
  split
  ·cases hr:s.r with
   | nil=>simp
   | cons c r=>
    dsimp only
    split
    ·simp
    ·exact key _ _ _
  ·exact key _ _ _
theorem hlook_len (win:Int) (s:Lk):(hlook win s).2.m.length=s.m.length∧((hlook win s).1.mat=true→(hlook win s).1.arm<s.m.length):=hLook_len win _ s 0
structure Dia.Ok0 (d:Dia):Prop where
 sg:good d.s=true
 pg:goodP d.p=true
 pf:d.p.Fit
 a0:0≤d.at_
 a1:d.at_≤d.p.ops.length
 j0:0≤d.jumps
 j1:d.jumps≤d.p.jumps
 ou:d.out.Ok
 n0:0≤d.now
 nw:d.now≤never
 dt:d.due.til≤never
 dl:d.due.lim≤never
 dc:d.due.cut≤never
 st:d.status=0∨d.status=1∨d.status=2∨d.status=3∨d.status=4∨d.status=5
structure Dia.Ok (d:Dia):Prop extends Dia.Ok0 d where
 ar:d.status=0→d.op.kind=2→∃m,d.win.m=some m∧m.length=d.op.arms.length
theorem good_facts {s:Setup} (h:good s=true):(1≤s.ring∧s.ring≤4096)∧(1≤s.win∧s.win≤4096)∧(1≤s.out∧s.out≤4096)∧(1≤s.live∧s.live≤1024)∧(1≤s.quantum∧s.quantum≤1000000)∧(1≤s.visits∧s.visits≤64):=by
 simp [good,inn]at h;omega
theorem wtr_new_ok {n:Int}:(Wtr.new n).Ok:=by
 have h:(ByteArray.empty).size=0:=rfl
 unfold Wtr.new
 constructor <;>simp only [h] <;>omega
theorem wtr_begin_ok {w:Wtr} (h:w.Ok) {t:ByteArray} (ht:t.size≤1000000000000):(w.begin t).Ok:=by
 obtain⟨h0,h1,h2,h3,h4,h5⟩:=h
 unfold Wtr.begin
 constructor <;>simp only <;>omega
theorem wtr_load_ok {w:Wtr} (h:w.Ok):w.load.Ok:=by
 obtain⟨h0,h1,h2,h3,h4,h5⟩:=h
 unfold Wtr.load Wtr.loads
 have hx:w.text.size≤1000000000000:=h3
 split
 ·constructor <;>simp only <;>omega
 ·constructor <;>simp only <;>omega
theorem wtr_take_ok {w:Wtr} (h:w.Ok) (n:Int):(w.take n).Ok:=by
 obtain⟨h0,h1,h2,h3,h4,h5⟩:=h
 unfold Wtr.take Wtr.upto
 constructor <;>simp only <;>omega
theorem own_le {t:Int} (h:t≤never):own t≤never:=by have:=nev;unfold own;omega
theorem tadd_le {t d:Int}:tadd t d≤never:=by unfold tadd;split <;>omega
theorem behind_le {t d:Int}:behind t d≤never:=by unfold behind;split;omega;exact tadd_le
theorem foldl_min_le (l:List Int):∀m:Int,l.foldl (fun m t=>min m (own t)) m≤m:=by
 induction l with
 | nil=>intro m;simp
 | cons a l ih=>intro m;simp only [List.foldl_cons];have:=ih (min m (own a));omega
theorem tleast_le (l:List Int):tleast l≤never:=foldl_min_le l never
theorem opAt_facts {p:PrM} (hg:goodP p=true) (i:Int):opAt p.ops i=OpM.zero∨(opAt p.ops i∈p.ops∧opE p (opAt p.ops i)=0∧i.toNat<p.ops.length):=by
 rcases opAt_mem (ops:=p.ops) (i:=i)with h | h
 ·exact .inl h
 ·exact .inr ⟨h.1,(goodP_facts hg).2.2.2 _ h.1,h.2⟩
theorem op_send {p:PrM} (hg:goodP p=true) {i:Int} (h:(opAt p.ops i).kind=1):(0<(opAt p.ops i).text.size∧(opAt p.ops i).text.size≤256)∧i.toNat<p.ops.length:=by
 rcases opAt_facts hg i with h1 | ⟨_,h1,h2⟩
 ·rw [h1]at h;cases h
 ·exact⟨(opE_facts h1).2.1 h,h2⟩
theorem op_expect {p:PrM} (hg:goodP p=true) {i:Int} (h:(opAt p.ops i).kind=2):expE p (opAt p.ops i)=0∧i.toNat<p.ops.length:=by
 rcases opAt_facts hg i with h1 | ⟨_,h1,h2⟩
 ·rw [h1]at h;cases h
 ·exact⟨(opE_facts h1).2.2.1 h,h2⟩
theorem op_goto {p:PrM} (hg:goodP p=true) {i:Int} (h:(opAt p.ops i).kind=3):comes p (opAt p.ops i).to=true∧i.toNat<p.ops.length:=by
 rcases opAt_facts hg i with h1 | ⟨_,h1,h2⟩
 ·rw [h1]at h;cases h
 ·exact⟨(opE_facts h1).2.2.2.1 h,h2⟩
theorem op_pause {p:PrM} (hg:goodP p=true) {i:Int} (h:(opAt p.ops i).kind=4):(0≤(opAt p.ops i).n∧(opAt p.ops i).n≤1000000000000)∧i.toNat<p.ops.length:=by
 rcases opAt_facts hg i with h1 | ⟨_,h1,h2⟩
 ·rw [h1]at h;cases h
 ·exact⟨(opE_facts h1).2.2.2.2 h,h2⟩
theorem come_ok {d:Dia} (h:d.Ok0) {to:Int} (h0:0≤to) (h1:to≤d.p.ops.length):(d.come to).Ok:=by
 unfold Dia.come
 have hn:never≤never:=Int.le_refl _
 split
 ·rename_i k
  have ht:=op_send h.pg k
  exact{h with a0:=h0,a1:=h1,ou:=wtr_begin_ok h.ou (by omega),dt:=hn,ar:=fun _ k2=>by unfold Dia.op at k2;simp only at k2;omega}
 ·split
  ·rename_i k
   have ht:=op_expect h.pg k
   obtain⟨m,hm,hl⟩:=pats_ok ht.1
   refine{h with a0:=h0,a1:=h1,dt:=behind_le,ar:=fun _ _=>⟨m,?_,?_⟩}
   ·simp only [Win.begin,hm]
   ·exact hl
  ·split
   ·exact{h with a0:=h0,a1:=h1,dt:=behind_le,ar:=fun _ k2=>by unfold Dia.op at k2;simp only at k2;omega}
   ·exact{h with a0:=h0,a1:=h1,dt:=hn,ar:=fun _ k2=>by unfold Dia.op at k2;simp only at k2;omega}
theorem stop_ok {d:Dia} (h:d.Ok) {st:Int} (hs:st=1∨st=2∨st=3∨st=4∨st=5):(d.stop st).Ok:=
 {h with ou:=wtr_new_ok,st:=by unfold Dia.stop;simp only;omega,ar:=fun h0=>by unfold Dia.stop at h0;simp only at h0;omega}
theorem jump_ok {d:Dia} (h:d.Ok) {x:StepM} {to:Int} (h1:to<0∨to≤d.p.ops.length):(d.jump x to).2.Ok:=by
 unfold Dia.jump
 split
 ·exact stop_ok h (by omega)
 ·split
  ·exact stop_ok h (by omega)
  ·refine come_ok (d:={d with jumps:=d.jumps+1}) {h with j0:= ?_,j1:= ?_} (by omega) (by simp only;omega)
   ·have:=h.j0;simp only;omega
   ·simp only;omega
theorem look_state_ok {d:Dia} (h:d.Ok) {m:Pats} (hm:d.win.m=some m):Dia.Ok {d with win:=⟨(d.seen m).2.b,(d.seen m).2.seen,some (d.seen m).2.m⟩,inq:=(d.seen m).2.r}:=by
 refine{h with ar:=fun h0 hk=> ?_}
 obtain⟨m',h1,h2⟩:=h.ar h0 hk
 rw [hm]at h1
 cases h1
 refine⟨_,rfl,?_⟩
 have:=(hlook_len d.s.win ⟨d.win.b,d.win.seen,m,d.inq⟩).1
 unfold Dia.seen
 rw [this]
 exact h2
theorem look_arm {d:Dia} (h:d.Ok) (h0:d.status=0) (hk:d.op.kind=2) {m:Pats} (hm:d.win.m=some m) (hmat:(d.seen m).1.mat=true):(d.seen m).1.arm<d.op.arms.length:=by
 obtain⟨m',h1,h2⟩:=h.ar h0 hk
 rw [hm]at h1;cases h1
 have:=(hlook_len d.s.win ⟨d.win.b,d.win.seen,m,d.inq⟩).2 hmat
 unfold Dia.seen
 simp only at this;omega
theorem look_ok {d:Dia} (h:d.Ok) (h0:d.status=0) (hk:d.op.kind=2) {x:StepM}:(d.look x d.op).2.Ok:=by
 unfold Dia.look
 obtain⟨m,hm,hl⟩:=h.ar h0 hk
 rw [hm]
 dsimp only
 have hs:=look_state_ok h hm
 have he:=op_expect h.pg hk
 obtain⟨e1,e2,e3,e4,e5⟩:=expE_facts he.1
 split
 ·rename_i hmat
  have harm:=look_arm h h0 hk hm hmat
  refine jump_ok hs (.inr ?_)
  have hc:=comes_iff.1 (arm_comes (e3 _ (List.getElem_mem harm)))
  have:(d.op.arms.getD (d.seen m).1.arm ⟨.empty,0⟩)=d.op.arms[(d.seen m).1.arm]:=by rw [List.getD_eq_getElem?_getD,List.getElem?_eq_getElem harm];rfl
  rw [this]
  exact hc.2
 ·split
  ·exact stop_ok hs (by omega)
  ·split
   ·refine jump_ok hs ?_
    rcases e5 with e | e
    ·left;show(opAt d.p.ops d.at_).onE<0;omega
    ·right;exact(comes_iff.1 e).2
   ·split
    ·refine jump_ok hs ?_
     rcases e4 with e | e
     ·left;show(opAt d.p.ops d.at_).onT<0;omega
     ·right;exact(comes_iff.1 e).2
    ·exact hs
theorem send_ok {d:Dia} (h:d.Ok) (hk:d.op.kind=1) {x:StepM}:(d.send x d.op).2.Ok:=by
 unfold Dia.send
 split
 ·exact{h with ou:=wtr_load_ok h.ou,ar:=h.ar}
 ·have:=(op_send h.pg hk).2
  have h0:=h.a0
  exact come_ok h.toOk0 (by omega) (by omega)
theorem over_status {d:Due} {n:Int} (h:(d.over n).2=true):(d.over n).1=3∨(d.over n).1=5:=by
 unfold Due.over at h ⊢
 split
 ·exact .inl rfl
 ·split
  ·exact .inr rfl
  ·rename_i h1 h2;rw [if_neg h1,if_neg h2]at h;cases h
theorem does_ok {d:Dia} (h:d.Ok) (h0:d.status=0) {x:StepM}:(d.does x).2.Ok:=by
 unfold Dia.does
 split
 ·rename_i ho
  exact stop_ok h (by have:=over_status ho;omega)
 ·split
  ·exact send_ok h (by assumption)
  ·split
   ·exact look_ok h h0 (by assumption)
   ·split
    ·rename_i k
     have:=comes_iff.1 (op_goto h.pg k).1
     exact jump_ok h (.inr this.2)
    ·split
     ·rename_i k
      have:=(op_pause h.pg k).2
      have h0:=h.a0
      exact come_ok h.toOk0 (by omega) (by omega)
     ·split <;>exact stop_ok h (by omega)
theorem tick_ok {d:Dia} (h:d.Ok) {now:Int} (hn:now≤never):(d.tick now).Ok:={h with n0:=by have:=h.n0;unfold Dia.tick;simp only;omega,nw:=by have:=h.nw;unfold Dia.tick;simp only;omega,ar:=h.ar}
theorem did_ok {d:Dia} (h:d.Ok) (h0:d.status=0) {now:Int} (hn:now≤never):(d.did now).2.Ok:=does_ok (tick_ok h hn) h0
theorem new_ok0 {s:Setup} {p:PrM} {now:Int} (hs:good s=true) (hp:goodP p=true) (hf:p.Fit) (hn:now≤never):Dia.Ok0 ⟨s,p,0,0,0,Due.begin (own now) p.dl,[],⟨[],0,none⟩,Wtr.new s.out,false,own now⟩:=by
 have hj:=(goodP_facts hp).2.1
 refine{sg:=hs,pg:=hp,pf:=hf,a0:= ?_,a1:= ?_,j0:= ?_,j1:=hj.1,ou:=wtr_new_ok,n0:= ?_,nw:=own_le hn,dt:=Int.le_refl _,dl:=behind_le,dc:=Int.le_refl _,st:= .inl rfl}
 ·exact Int.le_refl _
 ·exact Int.natCast_nonneg _
 ·exact Int.le_refl _
 ·simp only [own];omega
theorem new_ok {s:Setup} {p:PrM} {now:Int} (hs:good s=true) (hp:goodP p=true) (hf:p.Fit) (hn:now≤never):(Dia.new s p now).Ok:=
 come_ok (new_ok0 hs hp hf hn) (Int.le_refl _) (Int.natCast_nonneg _)
theorem put_ok {d:Dia} (h:d.Ok) (b:List UInt8):(d.put b).Ok:=by
 unfold Dia.put;split
 ·exact{h with ar:=h.ar}
 ·exact h
theorem ends_ok {d:Dia} (h:d.Ok):d.ends.Ok:=by
 unfold Dia.ends;split
 ·exact{h with ar:=h.ar}
 ·exact h
theorem take_ok {d:Dia} (h:d.Ok) (n:Int):(d.take n).Ok:=by
 unfold Dia.take;split
 ·exact{h with ou:=wtr_take_ok h.ou n,ar:=h.ar}
 ·exact h
theorem cut_ok {d:Dia} (h:d.Ok) (t:Int):(d.cut t).Ok:=by
 unfold Dia.cut;split
 ·exact{h with dc:=tleast_le _,ar:=h.ar}
 ·exact h
end Go.Proofs.YtbjlfobjngogkaaGreatDoor
namespace Go.Proofs.YtbjlfobjngogkaaGreatDoor
open Go
set_option synthInstance.maxSize 100000
set_option synthInstance.maxHeartbeats 1000000
set_option maxRecDepth 100000
instance (priority:=60) naAdd2 {b i j:Nat}:Na (((ad b 0).add i).add j) b (i+j):=⟨by rw [add_ad,add_ad];simp⟩
class OpsR (cs:St) (a:Option Addr) (n c:Nat) (ops:outParam (List OpM)):Prop where
 h:∃L,RdS cs encOp a n c L∧L.map Prod.fst=ops∧∀x∈L,RdS cs encArm x.2.1 x.2.2.1 x.2.2.2 x.1.arms
instance (priority:=40) opsThere {cs:St} {a:Option Addr} {n c:Nat} {ops:List OpM} {d:Chunk} [r:OpsR cs a n c ops]:OpsR (d::cs) a n c ops:=⟨by
 obtain⟨L,h2,h3,h4⟩:=r.h
 exact⟨L,h2.cons,h3,fun x hx=>(h4 x hx).cons⟩⟩
theorem Sc.in (sc:Sc) {cs:St} (h:∀x∈sc.ch,x∈cs.flatten):OpsR cs sc.a sc.n sc.c sc.p.ops:=⟨by
 obtain⟨a,n,c,L,h1,h2,h3,h4⟩:=sc.r.h
 simp only [prCells,List.cons.injEq,Value.slice.injEq,and_true,true_and]at h1
 obtain⟨rfl,rfl,rfl⟩:=h1
 exact⟨L,h2.sub (by simpa using h),h3,fun x hx=>(h4 x hx).sub (by simpa using h)⟩⟩
instance scOps {sc:Sc} {cs:St}:OpsR (sc.ch::cs) sc.a sc.n sc.c sc.p.ops:=sc.in (by simp;exact fun a b h=> .inl h)
structure Dl where
 d:Dia
 sc:Sc
 rb:Nat
 hb:Nat
 ob:Nat
 rg:Rg
 hd:Hd
 tr:Int
 hp:sc.p=d.p
 h1:rg.q=d.inq
 h2:(rg.buf.length:Int)=d.s.ring
 h3:hd.win=d.s.win
 h4:hd.b=d.win.b
 h5:hd.seen=d.win.seen
 h6:hd.m=d.win.m
 ok:d.Ok
structure Dl0 where
 d:Dia
 sc:Sc
 rb:Nat
 hb:Nat
 ob:Nat
 rg:Rg
 hd:Hd
 tr:Int
 hp:sc.p=d.p
 h1:rg.q=d.inq
 h2:(rg.buf.length:Int)=d.s.ring
 h3:hd.win=d.s.win
 h4:hd.b=d.win.b
 h5:hd.seen=d.win.seen
 h6:hd.m=d.win.m
 ok:d.Ok0
def Dl.weak (x:Dl):Dl0:=⟨x.d,x.sc,x.rb,x.hb,x.ob,x.rg,x.hd,x.tr,x.hp,x.h1,x.h2,x.h3,x.h4,x.h5,x.h6,x.ok.toOk0⟩
@[reducible] def dCells (d:Dia) (a:Option Addr) (n c:Nat) (rb hb ob:Nat):List Value:=
 [.int .i64 d.s.live,.int .i64 d.s.ring,.int .i64 d.s.win,.int .i64 d.s.out,.int .i64 d.s.quantum,.int .i64 d.s.visits,.string d.p.name,.int .i64 d.p.dl,.int .i64 d.p.jumps,.slice a n c,.int .i64 d.at_,.int .i64 d.status,.int .i64 d.jumps,.int .i64 d.due.til,.int .i64 d.due.lim,.int .i64 d.due.cut,.pointer (some (ad rb 0)),.pointer (some (ad hb 0)),.pointer (some (ad ob 0)),.bool d.eof,.int .i64 d.now]
def dialC (b:Nat) (x:Dl):Chunk:=bk b 311 (dCells x.d x.sc.a x.sc.n x.sc.c x.rb x.hb x.ob)++(x.sc.ch++(ringC x.rb x.rg++(holdC x.hb x.hd++pendC x.ob (x.d.out,x.tr))))
section
variable {cs:St} {b:Nat} {x:Dl} {put:Chunk→St} {K:Value→SP}
instance dialRd [o:Ob dialC cs b x put]:RdB cs b 311 (dCells x.d x.sc.a x.sc.n x.sc.c x.rb x.hb x.ob):=⟨by
 obtain⟨i,h,_⟩:=o.h;exact Rd.in h (by simp [dialC,bk])⟩
theorem op_read {cs0:St} {c:List Value} {at_:Int} {a:Option Addr} {n k:Nat} {ops:List OpM} (hsub:∀x∈cs0.flatten,x∈cs.flatten) (q:RdB cs b 311 c) (g1:Get c 10 (.int .i64 at_)) (g2:Get c 9 (.slice a n k)) (r:OpsR cs0 a n k ops)
  (h0:0≤at_) (h:∀a' n' c',OpR cs0 (opCells (opAt ops at_) a' n' c') (opAt ops at_)→K (.agg ⟨opCells (opAt ops at_) a' n' c'⟩) cs):fn 249 [.pointer (some (ad b 0))] K cs:=up0 (f249 (by
 obtain⟨L,h2,h3,h4⟩:=r.h
 have rw1:Rw 97 7 cs a n k encOp L:=⟨h2.sub hsub⟩
 have hn:=h2.len
 have hl:ops.length=n:=by rw [←h3,List.length_map,hn]
 unfold s249
 refine go fun b1=> ?_
 simp only [decide_eq_true_eq,decide_eq_false_iff_not,ge_iff_le]
 refine⟨fun c1=> ?_,fun c1=>⟨by omega,fun y hy=> ?_⟩⟩
 ·have e:opAt ops at_=OpM.zero:=by
   unfold opAt;rw [List.getD_eq_getElem?_getD,List.getElem?_eq_none (by omega)];rfl
  have:=h none 0 0 ⟨none,0,0,rfl,by rw [e];exact rds_nil⟩
  rw [e]at this
  exact fin this
 ·have hy2:ops[at_.toNat]? =some y.1:=by rw [←h3,List.getElem?_map,hy];rfl
  have e:opAt ops at_=y.1:=by
   unfold opAt;rw [List.getD_eq_getElem?_getD,hy2];rfl
  have hy3:=List.mem_of_getElem? hy
  have:=h y.2.1 y.2.2.1 y.2.2.2 ⟨_,_,_,rfl,by rw [e];exact h4 y hy3⟩
  rw [e]at this
  exact fin this))
instance c249 {c:List Value} {at_:Int} {a:Option Addr} {n k:Nat} {ops:List OpM} [q:RdB cs b 311 c] [g1:Get c 10 (.int .i64 at_)] [g2:Get c 9 (.slice a n k)] [r:OpsR cs a n k ops]:
  Go1 (fn 249 [.pointer (some (ad b 0))] K cs) (0≤at_∧∀a' n' c',OpR cs (opCells (opAt ops at_) a' n' c') (opAt ops at_)→K (.agg ⟨opCells (opAt ops at_) a' n' c'⟩) cs):=⟨fun⟨h0,h⟩=>op_read (fun _ h=>h) q g1 g2 r h0 h⟩
instance c174 [o:Ob dialC cs b x put]:Go1 (fn 174 [.pointer (some (ad b 0))] K cs) (K (.bool x.d.runs) cs):=⟨fun h=>f174 (by unfold s174;exact go h)⟩
instance c254 [o:Ob dialC cs b x put]:Go1 (fn 254 [.pointer (some (ad b 0))] K cs) (K (.int .i64 x.d.status) cs):=⟨fun h=>f254 (by unfold s254;exact go h)⟩
theorem dSc (o:Ob dialC cs b x put):∀y∈([x.sc.ch]:St).flatten,y∈cs.flatten:=by
 obtain⟨i,h,_⟩:=o.h
 exact fun y hy=>List.mem_flatten.2 ⟨_,List.mem_of_getElem? h,by simp at hy;simp [dialC,hy]⟩
instance (priority:=2000) c249c [o:Ob dialC cs b x put]:Go1 (fn 249 [.pointer (some (ad b 0))] K cs) (∀a' n' c',OpR [x.sc.ch] (opCells x.d.op a' n' c') x.d.op→K (.agg ⟨opCells x.d.op a' n' c'⟩) cs):=⟨fun h=>by
 have r:OpsR [x.sc.ch] x.sc.a x.sc.n x.sc.c x.d.p.ops:=by rw [←x.hp];infer_instance
 exact op_read (c:=dCells x.d x.sc.a x.sc.n x.sc.c x.rb x.hb x.ob) (dSc o) inferInstance inferInstance inferInstance r x.ok.a0 h⟩
abbrev dParts (b:Nat) (x:Dl):St:=[bk b 311 (dCells x.d x.sc.a x.sc.n x.sc.c x.rb x.hb x.ob),x.sc.ch,ringC x.rb x.rg,holdC x.hb x.hd,pendC x.ob (x.d.out,x.tr)]
theorem dParts_eq (x:Dl):(dParts b x).flatten=dialC b x:=by simp [dParts,dialC]
theorem dShut {F c:St} {v:Value} (x':Dl) (hi:Imp c (dParts b x'++F)) (h:K v (put (dialC b x'))):∃parts',Imp c (parts'++F)∧K v (put parts'.flatten):=⟨dParts b x',hi,by rw [dParts_eq];exact h⟩
theorem good_n {p:PrM} {o:OpM} (h:expE p o=0):o.n≤never:=by
 have:=nev
 rcases(expE_facts h).1 with h | h <;>omega
theorem come_parts {x:Dl0} {F:St} {to:Int} (ht0:0≤to) (ht1:to≤x.d.p.ops.length) {K:Value→SP} (h:∀x':Dl,x'.d=x.d.come to→K undef (dParts b x'++F)):
  fn 233 [.pointer (some (ad b 0)),.int .i64 to] (Up K) (bk b 311 (dCells x.d x.sc.a x.sc.n x.sc.c x.rb x.hb x.ob)::x.sc.ch::ringC x.rb x.rg::holdC x.hb x.hd::pendC x.ob (x.d.out,x.tr)::F):=f233 (by
 have dShut:∀{c:St} (x':Dl),Imp c (dParts b x'++F)→x'.d=x.d.come to→Up K undef c:=fun x' hi e=>⟨_,hi,h x' e⟩
 unfold s233
 have hok:=come_ok x.ok ht0 ht1
 have hnev:=nev
 have hp:=x.hp
 refine go ⟨ht0,fun a' n' c' ro b2=> ?_⟩
 rw [hp]at ro ⊢
 obtain⟨a3,n3,c3,q1,rarms⟩:=ro.h
 simp only [opCells,List.cons.injEq,Value.slice.injEq,and_true,true_and]at q1
 obtain⟨rfl,rfl,rfl⟩:=q1
 have rwa:Rw 146 2 F a' n' c' encArm (opAt x.d.p.ops to).arms→True:=fun _=>trivial
 simp only [beq_iff_eq,beq_eq_false_iff_ne,ne_eq]
 refine⟨fun c1=> ?_,fun c1=>⟨fun c2=> ?_,fun c2=>⟨fun c4=>⟨⟨x.ok.nw,?_⟩,?_⟩,fun c4=> ?_⟩⟩⟩
 ·have e:x.d.come to={x.d with at_:=to,due:=x.d.due.rest,out:=x.d.out.begin (opAt x.d.p.ops to).text}:=by unfold Dia.come;rw [if_pos c1]
  rw [e]at hok
  refine dShut ⟨{x.d with at_:=to,due:=x.d.due.rest,out:=x.d.out.begin (opAt x.d.p.ops to).text},x.sc,x.rb,x.hb,x.ob,x.rg,x.hd,0,hp,x.h1,x.h2,x.h3,x.h4,x.h5,x.h6,hok⟩ ?_ e.symm
  dsimp only [dParts,List.cons_append,List.nil_append]
  exact drp
 ·have e:x.d.come to={x.d with at_:=to,due:=x.d.due.rest.wait x.d.now (opAt x.d.p.ops to).n,win:=x.d.win.begin (opAt x.d.p.ops to)}:=by unfold Dia.come;rw [if_neg c1,if_pos c2]
  rw [e]at hok
  have he:=op_expect x.ok.pg c2
  obtain⟨e1,e2,e3,e4,e5⟩:=expE_facts he.1
  obtain⟨m,hm,hml⟩:=pats_ok he.1
  have hn':=rarms.len
  have rw1:Rw 146 2 (bk b 311 (dCells {x.d with at_:=to,due:=x.d.due.rest} x.sc.a x.sc.n x.sc.c x.rb x.hb x.ob)::x.sc.ch::ringC x.rb x.rg::holdC x.hb x.hd::pendC x.ob (x.d.out,x.tr)::F) a' n' c' encArm (opAt x.d.p.ops to).arms:=⟨rarms⟩
  refine lp (fun y:Nat×Option Addr×Nat×Chunk=>[.slice y.2.1 y.1 y.2.2.1,.int .i64 y.1]) (fun y=>y.2.2.2::bk b2 97 (opCells (opAt x.d.p.ops to) a' n' c')::bk b 311 (dCells {x.d with at_:=to,due:=x.d.due.rest} x.sc.a x.sc.n x.sc.c x.rb x.hb x.ob)::x.sc.ch::ringC x.rb x.rg::holdC x.hb x.hd::pendC x.ob (x.d.out,x.tr)::F)
   (fun y=>y.1≤n'∧Row 9 1 y.2.1 y.1 y.2.2.1 encS (((opAt x.d.p.ops to).arms.take y.1).map ArmM.pat) y.2.2.2) (fun y=>n'-y.1) (0,none,0,[]) rfl drp ⟨Nat.zero_le _,⟨Sl.nil⟩⟩ ?_
  rintro⟨i,ai,ci,chi⟩ ⟨i1,i2⟩
  dsimp only at *
  refine go ?_
  simp only [decide_eq_true_eq,decide_eq_false_iff_not,Int.toNat_natCast]
  refine⟨fun k1=>⟨by omega,fun y hy b3=>⟨⟨by omega,by omega,by omega⟩,y.pat,rfl,fun a4 c4 ch4 r4=> ?_⟩⟩,fun k1=> ?_⟩
  ·rw [w64_succ (by omega)]
   refine⟨(i+1,a4,c4,ch4),rfl,drp,⟨by omega,?_⟩,by omega⟩
   have hi:=lt_of_get hy
   have et:(opAt x.d.p.ops to).arms.take (i+1)=(opAt x.d.p.ops to).arms.take i++[y]:=by
    rw [List.take_succ_eq_append_getElem hi]
    rw [List.getElem?_eq_getElem hi]at hy
    rw [Option.some.inj hy]
   rw [et,List.map_append]
   exact r4
  ·have ei:i=n':=by omega
   subst ei
   have i3:(opAt x.d.p.ops to).arms.take i=(opAt x.d.p.ops to).arms:=by rw [hn',List.take_length]
   rw [i3]
   have hpats:((opAt x.d.p.ops to).arms.map ArmM.pat).map bl=patsOf (opAt x.d.p.ops to):=by simp [patsOf,bl]
   refine go ⟨⟨fun s hs=> ?_,by omega⟩,fun j e he2=> ?_,fun m' hm' hd' g1 g2 g3 g4=> ?_⟩
   ·obtain⟨y,hy,rfl⟩:=List.mem_map.1 hs
    have:=(armE_facts (e3 y hy)).1;omega
   ·rw [hpats,hm]at he2;cases he2
   ·rw [hpats,hm]at hm'
    cases hm'
    refine⟨⟨x.ok.nw,good_n he.1⟩,?_⟩
    have ew:x.d.win.begin (opAt x.d.p.ops to)=⟨x.d.win.b,0,some m⟩:=by simp only [Win.begin,hm]
    rw [ew]at e hok
    refine dShut ⟨{x.d with at_:=to,due:=x.d.due.rest.wait x.d.now (opAt x.d.p.ops to).n,win:=⟨x.d.win.b,0,some m⟩},x.sc,x.rb,x.hb,x.ob,x.rg,hd',x.tr,hp,x.h1,x.h2,g1.trans x.h3,g2.trans x.h4,g3,g4,hok⟩ ?_ e.symm
    dsimp only [dParts,List.cons_append,List.nil_append]
    exact drp
 ·have:=op_pause x.ok.pg c4;omega
 ·have e:x.d.come to={x.d with at_:=to,due:=x.d.due.rest.wait x.d.now (opAt x.d.p.ops to).n}:=by unfold Dia.come;rw [if_neg c1,if_neg c2,if_pos c4]
  rw [e]at hok
  refine dShut ⟨{x.d with at_:=to,due:=x.d.due.rest.wait x.d.now (opAt x.d.p.ops to).n},x.sc,x.rb,x.hb,x.ob,x.rg,x.hd,x.tr,hp,x.h1,x.h2,x.h3,x.h4,x.h5,x.h6,hok⟩ ?_ e.symm
  dsimp only [dParts,List.cons_append,List.nil_append]
  exact drp
 ·have e:x.d.come to={x.d with at_:=to,due:=x.d.due.rest}:=by unfold Dia.come;rw [if_neg c1,if_neg c2,if_neg c4]
  rw [e]at hok
  refine dShut ⟨{x.d with at_:=to,due:=x.d.due.rest},x.sc,x.rb,x.hb,x.ob,x.rg,x.hd,x.tr,hp,x.h1,x.h2,x.h3,x.h4,x.h5,x.h6,hok⟩ ?_ e.symm
  dsimp only [dParts,List.cons_append,List.nil_append]
  exact drp)
instance c233 [o:Ob dialC cs b x put] {to:Int}:Go1 (fn 233 [.pointer (some (ad b 0)),.int .i64 to] K cs) ((0≤to∧to≤x.d.p.ops.length)∧∀x':Dl,x'.d=x.d.come to→K undef (put (dialC b x'))):=⟨fun⟨⟨ht0,ht1⟩,h⟩=>
 o.fn (dParts b x) (dParts_eq x) fun F=>fn_weak (fun v c ⟨c',hi,x',hc,hv,hk⟩=>by
  rw [hc]at hi;exact Go.Proofs.YtbjlfobjngogkaaGreatDoor.dShut x' hi hk) (come_parts (x:=x.weak) ht0 ht1 (K:=fun v c=>∃x':Dl,c=dParts b x'++F∧v=undef∧K v (put (dialC b x'))) fun x' hx'=>⟨x',rfl,rfl,h x' hx'⟩)⟩
instance c389 [o:Ob dialC cs b x put] {st:Int}:Go1 (fn 389 [.pointer (some (ad b 0)),.int .i64 st] K cs) ((st=1∨st=2∨st=3∨st=4∨st=5)∧∀x':Dl,x'.d=x.d.stop st→K undef (put (dialC b x'))):=⟨fun⟨hs,h⟩=>
 o.fn (dParts b x) (dParts_eq x) fun F=>f389 (by
 simp only [dParts,List.cons_append,List.nil_append]
 unfold s389
 have hok:=stop_ok x.ok hs
 have hg:=good_facts x.ok.sg
 refine go fun b1 rg' g1 g2 g3 b2 hd' k1 k2 k3 k4 b3=> ?_
 refine dShut ⟨{x.d with status:=st,inq:=[],win:=⟨[],0,none⟩,out:=Wtr.new x.d.s.out},x.sc,b1,b2,b3,rg',hd',0,x.hp,g1,?_,?_,k2,k3,k4,hok⟩ ?_ (h _ rfl)
 ·rw [g3];show _=x.d.s.ring;omega
 ·rw [k1];show _=x.d.s.win;omega
 ·dsimp only [dParts,List.cons_append,List.nil_append]
  exact drp)⟩
@[reducible] def stC (y:StepM):List Value:=[.int .i64 y.tick,.int .i64 y.at_,.int .i64 y.what,.int .i64 y.arm,.int .i64 y.n,.int .i64 y.status]
theorem dFold {c G:St} (x1:Dl) (hi:Imp c (dParts b x1++G)):Imp c (dialC b x1::G):=hi.trans (Imp.of_sub (l:=[]) (by simp [dParts,dialC]))
theorem dUn {G:St} (x1:Dl):Imp (dialC b x1::G) (dParts b x1++G):=Imp.of_sub (l:=[]) (by simp [dParts,dialC])
theorem d392 (o:Ob dialC cs b x put) {y:StepM} {to:Int}:Go1 (fn 392 [.pointer (some (ad b 0)),.agg ⟨stC y⟩,.int .i64 to] K cs) ((to<0∨to≤x.d.p.ops.length)∧∀x':Dl,x'.d=(x.d.jump y to).2→K (.agg ⟨stC (x.d.jump y to).1⟩) (put (dialC b x'))):=⟨fun⟨hs,h⟩=>
 o.fn (dParts b x) (dParts_eq x) fun F=>f392 (by
 simp only [dParts,List.cons_append,List.nil_append]
 unfold s392
 have hok:=jump_ok x.ok (x:=y) hs
 refine go fun b1 b2=> ?_
 simp only [decide_eq_true_eq,decide_eq_false_iff_not,ge_iff_le]
 refine⟨fun c1=> ?_,fun c1=>⟨fun c2=> ?_,fun c2=> ?_⟩⟩
 ·have e:x.d.jump y to=(y,x.d.stop 2):=by unfold Dia.jump;rw [if_pos c1]
  rw [e]at h
  refine fn_imp (dFold (b:=b) (G:=bk b2 99 [.int .i64 0,.int .i64 0,.int .i64 0,.int .i64 0,.int .i64 0,.int .i64 0]::bk b1 99 (stC y)::F) x (by dsimp only [dParts,List.cons_append,List.nil_append];exact drp)) ?_
  refine go ⟨by omega,fun x' hx'=> ?_⟩
  refine dShut x' ?_ (h x' hx')
  exact Imp.trans drp (dUn x')
 ·have e:x.d.jump y to=({y with what:=11},x.d.stop 2):=by unfold Dia.jump;rw [if_neg c1,if_pos c2]
  rw [e]at h
  refine fn_imp (dFold (b:=b) (G:=bk b2 99 [.int .i64 0,.int .i64 0,.int .i64 0,.int .i64 0,.int .i64 0,.int .i64 0]::bk b1 99 (stC {y with what:=11})::F) x (by dsimp only [dParts,List.cons_append,List.nil_append];exact drp)) ?_
  refine go ⟨by omega,fun x' hx'=> ?_⟩
  refine dShut x' ?_ (h x' hx')
  exact Imp.trans drp (dUn x')
 ·have e:x.d.jump y to=(y,{x.d with jumps:=x.d.jumps+1}.come to):=by unfold Dia.jump;rw [if_neg c1,if_neg c2]
  rw [e]at h hok
  have j0:=x.ok.j0
  have hj:=(goodP_facts x.ok.pg).2.1
  have hok1:Dia.Ok {x.d with jumps:=x.d.jumps+1}:={x.ok with j0:=by simp only;omega,j1:=by simp only;omega,ar:=x.ok.ar}
  have w1:w64 (x.d.jumps+1)=x.d.jumps+1:=w64_id (by omega)
  rw [w1]
  refine fn_imp (dFold (b:=b) (G:=bk b2 99 [.int .i64 0,.int .i64 0,.int .i64 0,.int .i64 0,.int .i64 0,.int .i64 0]::bk b1 99 (stC y)::F) ⟨{x.d with jumps:=x.d.jumps+1},x.sc,x.rb,x.hb,x.ob,x.rg,x.hd,x.tr,x.hp,x.h1,x.h2,x.h3,x.h4,x.h5,x.h6,hok1⟩ (by dsimp only [dParts,List.cons_append,List.nil_append];exact drp)) ?_
  refine go ⟨⟨by omega,by show to≤x.d.p.ops.length;omega⟩,fun x' hx'=> ?_⟩
  refine dShut x' ?_ (h x' hx')
  exact Imp.trans drp (dUn x'))⟩
instance c392 [o:Ob dialC cs b x put] {t1 t2 t3 t4 t5 t6:Int} {to:Int}:Go1 (fn 392 [.pointer (some (ad b 0)),.agg ⟨[.int .i64 t1,.int .i64 t2,.int .i64 t3,.int .i64 t4,.int .i64 t5,.int .i64 t6]⟩,.int .i64 to] K cs) ((to<0∨to≤x.d.p.ops.length)∧∀x':Dl,x'.d=(x.d.jump ⟨t1,t2,t3,t4,t5,t6⟩ to).2→K (.agg ⟨stC (x.d.jump ⟨t1,t2,t3,t4,t5,t6⟩ to).1⟩) (put (dialC b x'))):=d392 (y:=⟨t1,t2,t3,t4,t5,t6⟩) o
theorem d390 (o:Ob dialC cs b x put) {y:StepM} {a:Option Addr} {n c:Nat}:Go1 (fn 390 [.pointer (some (ad b 0)),.agg ⟨stC y⟩,.agg ⟨opCells x.d.op a n c⟩] K cs) (x.d.op.kind=1∧∀x':Dl,x'.d=(x.d.send y x.d.op).2→K (.agg ⟨stC (x.d.send y x.d.op).1⟩) (put (dialC b x'))):=⟨fun⟨hk,h⟩=>
 o.fn (dParts b x) (dParts_eq x) fun F=>f390 (by
 simp only [dParts,List.cons_append,List.nil_append]
 unfold s390
 have hok:=send_ok x.ok (x:=y) hk
 refine go fun b1 b2 b3=>⟨x.ok.ou,?_⟩
 simp only [decide_eq_true_eq,decide_eq_false_iff_not,gt_iff_lt]
 refine⟨fun c1=>⟨x.ok.ou,?_⟩,fun c1=> ?_⟩
 ·have e:x.d.send y x.d.op=({y with what:=5,n:=x.d.out.loads},{x.d with out:=x.d.out.load}):=by unfold Dia.send;rw [if_pos c1]
  rw [e]at h hok
  refine dShut ⟨{x.d with out:=x.d.out.load},x.sc,x.rb,x.hb,x.ob,x.rg,x.hd,x.tr,x.hp,x.h1,x.h2,x.h3,x.h4,x.h5,x.h6,hok⟩ ?_ (h _ rfl)
  dsimp only [dParts,List.cons_append,List.nil_append];exact drp
 ·have e:x.d.send y x.d.op=({y with what:=6,n:=x.d.op.text.size},x.d.come (x.d.at_+1)):=by unfold Dia.send;rw [if_neg c1]
  rw [e]at h hok
  have a0:=x.ok.a0
  have a1:=x.ok.a1
  have hl:=(goodP_facts x.ok.pg).2.2.1
  have ha:=(op_send x.ok.pg hk).2
  have w1:w64 (x.d.at_+1)=x.d.at_+1:=w64_id (by omega)
  rw [w1]
  refine fn_imp (dFold (b:=b) (G:=bk b3 99 [.int .i64 0,.int .i64 0,.int .i64 0,.int .i64 0,.int .i64 0,.int .i64 0]::bk b2 97 (opCells x.d.op a n c)::bk b1 99 (stC {y with what:=6,n:=x.d.op.text.size})::F) x (by dsimp only [dParts,List.cons_append,List.nil_append];exact drp)) ?_
  refine go ⟨⟨by omega,by omega⟩,fun x' hx'=> ?_⟩
  refine dShut x' ?_ (h x' hx')
  exact Imp.trans drp (dUn x'))⟩
instance c390 [o:Ob dialC cs b x put] {t1 t2 t3 t4 t5 t6:Int} {a:Option Addr} {n c:Nat}:Go1 (fn 390 [.pointer (some (ad b 0)),.agg ⟨[.int .i64 t1,.int .i64 t2,.int .i64 t3,.int .i64 t4,.int .i64 t5,.int .i64 t6]⟩,.agg ⟨opCells x.d.op a n c⟩] K cs) (x.d.op.kind=1∧∀x':Dl,x'.d=(x.d.send ⟨t1,t2,t3,t4,t5,t6⟩ x.d.op).2→K (.agg ⟨stC (x.d.send ⟨t1,t2,t3,t4,t5,t6⟩ x.d.op).1⟩) (put (dialC b x'))):=d390 (y:=⟨t1,t2,t3,t4,t5,t6⟩) o
instance fdArm1:FdI encArm 1 .i64 ArmM.to:=⟨fun _=>rfl⟩
@[reducible] def st0:List Value:=[.int .i64 0,.int .i64 0,.int .i64 0,.int .i64 0,.int .i64 0,.int .i64 0]
theorem d391 (o:Ob dialC cs b x put) {y:StepM} {a:Option Addr} {n c:Nat}:Go1 (fn 391 [.pointer (some (ad b 0)),.agg ⟨stC y⟩,.agg ⟨opCells x.d.op a n c⟩] K cs) ((x.d.status=0∧x.d.op.kind=2∧OpR [x.sc.ch] (opCells x.d.op a n c) x.d.op)∧∀x':Dl,x'.d=(x.d.look y x.d.op).2→K (.agg ⟨stC (x.d.look y x.d.op).1⟩) (put (dialC b x'))):=⟨fun⟨⟨hst,hk,ro⟩,h⟩=>
 o.fn (dParts b x) (dParts_eq x) fun F=>f391 (by
 simp only [dParts,List.cons_append,List.nil_append]
 unfold s391
 obtain⟨a3,n3,c3,q1,rarms⟩:=ro.h
 simp only [opCells,List.cons.injEq,Value.slice.injEq,and_true,true_and]at q1
 obtain⟨rfl,rfl,rfl⟩:=q1
 have hok:=look_ok x.ok hst hk (x:=y)
 obtain⟨m,hm,hml⟩:=x.ok.ar hst hk
 refine go fun b1 b2 b3=> ?_
 refine⟨fun l cx=>∃q x1,l=[.pointer (some (ad q 0))]∧Dl.d x1={x.d with win:=⟨(x.d.seen m).2.b,(x.d.seen m).2.seen,some (x.d.seen m).2.m⟩,inq:=(x.d.seen m).2.r}∧x1.sc=x.sc∧Imp cx (bk q 514 (fndL (x.d.seen m).1)::bk b3 99 st0::bk b2 97 (opCells x.d.op a n c)::bk b1 99 (stC y)::dialC b x1::F),?_,?_⟩
 ·rintro l c1 ⟨q,x1,rfl,hd1,hsc,hi⟩
  refine⟨_,hi,?_⟩
  generalize hd2:({x.d with win:=⟨(x.d.seen m).2.b,(x.d.seen m).2.seen,some (x.d.seen m).2.m⟩,inq:=(x.d.seen m).2.r}:Dia)=d2 at *
  have hp2:d2.p=x.d.p:=by rw [←hd2]
  have hn:=rarms.len
  have rwa:Rw 146 2 (bk b1 99 (stC {y with what:=2,arm:=(x.d.seen m).1.arm,n:=(x.d.seen m).1.gone})::dialC b x1::F) a n c encArm x.d.op.arms:=⟨rarms.sub (fun z hz=>by
   have e:z∈x.sc.ch:=by simpa using hz
   rw [←hsc]at e
   simp [dialC,e])⟩
  have hl:x.d.look y x.d.op=if(x.d.seen m).1.mat then d2.jump {y with what:=2,arm:=(x.d.seen m).1.arm,n:=(x.d.seen m).1.gone} (x.d.op.arms.getD (x.d.seen m).1.arm ⟨.empty,0⟩).to
   else if(x.d.seen m).1.full then({y with what:=13,n:=(x.d.seen m).1.read},d2.stop 4)
   else if x.d.eof then d2.jump {y with what:=4,n:=(x.d.seen m).1.read} x.d.op.onE
   else if x.d.due.woken x.d.now then d2.jump {y with what:=3,n:=(x.d.seen m).1.read} x.d.op.onT
   else({y with what:=1,n:=(x.d.seen m).1.read},d2):=by
   rw [←hd2];unfold Dia.look;rw [hm]
  have e1:d2.eof=x.d.eof:=by rw [←hd2]
  have e2:d2.due=x.d.due:=by rw [←hd2]
  have e3:d2.now=x.d.now:=by rw [←hd2]
  obtain⟨p1,p2,p3,p4,p5⟩:=expE_facts (op_expect x.ok.pg hk).1
  have hmat:=fun hh=>look_arm x.ok hst hk hm hh
  simp only [fndL]
  generalize hf:(x.d.seen m).1=f at *
  refine go ⟨fun c1=>⟨⟨by omega,by have:=hmat c1;omega⟩,fun z hz=>⟨?_,fun x' hx'=> ?_⟩⟩,fun c1=>⟨fun c2=>⟨by omega,fun x' hx'=> ?_⟩,fun c2=>⟨fun c3=>⟨?_,fun x' hx'=> ?_⟩,fun c3=>⟨fun c4=>⟨?_,fun x' hx'=> ?_⟩,fun c4=> ?_⟩⟩⟩⟩
  ·have hz2:=comes_iff.1 (arm_comes (p3 z (List.mem_of_getElem? hz)))
   rw [hd1,hp2]
   exact .inr hz2.2
  ·have ez:x.d.op.arms.getD f.arm ⟨.empty,0⟩=z:=by rw [List.getD_eq_getElem?_getD];rw [Int.toNat_natCast]at hz;rw [hz];rfl
   rw [if_pos c1,ez]at hl
   rw [hl,←hd1]at h
   refine dShut x' ?_ (h x' hx')
   exact Imp.trans drp (dUn x')
  ·rw [if_neg (by simp [c1]),if_pos c2]at hl
   rw [hl,←hd1]at h
   refine dShut x' ?_ (h x' hx')
   exact Imp.trans drp (dUn x')
  ·rw [hd1,hp2]
   rcases p5 with e | e
   ·exact .inl (by have e':x.d.op.onE= -1:=e;omega)
   ·exact .inr (comes_iff.1 e).2
  ·rw [hd1,e1]at c3
   rw [if_neg (by simp [c1]),if_neg (by simp [c2]),if_pos c3]at hl
   rw [hl,←hd1]at h
   refine dShut x' ?_ (h x' hx')
   exact Imp.trans drp (dUn x')
  ·rw [hd1,hp2]
   rcases p4 with e | e
   ·exact .inl (by have e':x.d.op.onT= -1:=e;omega)
   ·exact .inr (comes_iff.1 e).2
  ·rw [hd1,e1]at c3
   rw [hd1,e2,e3]at c4
   rw [if_neg (by simp [c1]),if_neg (by simp [c2]),if_neg (by simp [c3]),if_pos c4]at hl
   rw [hl,←hd1]at h
   refine dShut x' ?_ (h x' hx')
   exact Imp.trans drp (dUn x')
  ·rw [hd1,e1]at c3
   rw [hd1,e2,e3]at c4
   rw [if_neg (by simp [c1]),if_neg (by simp [c2]),if_neg (by simp [c3]),if_neg (by simp [c4])]at hl
   rw [hl]at h
   refine dShut x1 ?_ (h x1 hd1)
   exact Imp.trans drp (dUn x1)
 ·have eh:hlook x.hd.win {b:=x.hd.b,seen:=x.hd.seen,m:=m,r:=x.rg.q}=x.d.seen m:=by unfold Dia.seen;rw [x.h3,x.h4,x.h5,x.h1]
  have hxm:x.hd.m=some m:=x.h6.trans hm
  have fin':∀(q:Nat) (hd':Hd) (rg':Rg) (cx:St),hd'.win=x.hd.win→hd'.b=(x.d.seen m).2.b→hd'.seen=(x.d.seen m).2.seen→hd'.m=some (x.d.seen m).2.m→rg'.q=(x.d.seen m).2.r→rg'.buf.length=x.rg.buf.length→
    Imp cx (bk q 514 (fndL (x.d.seen m).1)::bk b3 99 st0::bk b2 97 (opCells x.d.op a n c)::bk b1 99 (stC y)::bk b 311 (dCells x.d x.sc.a x.sc.n x.sc.c x.rb x.hb x.ob)::x.sc.ch::ringC x.rb rg'::holdC x.hb hd'::pendC x.ob (x.d.out,x.tr)::F)→
    ∃q' x1,([.pointer (some (ad q 0))]:List Value)=[.pointer (some (ad q' 0))]∧Dl.d x1={x.d with win:=⟨(x.d.seen m).2.b,(x.d.seen m).2.seen,some (x.d.seen m).2.m⟩,inq:=(x.d.seen m).2.r}∧x1.sc=x.sc∧Imp cx (bk q' 514 (fndL (x.d.seen m).1)::bk b3 99 st0::bk b2 97 (opCells x.d.op a n c)::bk b1 99 (stC y)::dialC b x1::F):=by
   intro q hd' rg' cx g1 g2 g3 g4 g5 g6 hi
   refine⟨q,⟨{x.d with win:=⟨(x.d.seen m).2.b,(x.d.seen m).2.seen,some (x.d.seen m).2.m⟩,inq:=(x.d.seen m).2.r},x.sc,x.rb,x.hb,x.ob,rg',hd',x.tr,x.hp,g5,?_,g1.trans x.h3,g2,g3,g4,look_state_ok x.ok hm⟩,rfl,rfl,rfl,hi.trans ?_⟩
   ·rw [g6];exact x.h2
   ·exact Imp.of_sub (l:=[]) (by simp [dialC])
  refine go ⟨⟨m,hxm,?_⟩,fun q=>⟨m,hxm,?_⟩⟩
  ·rw [eh]
   intro hd' rg' g1 g2 g3 g4 g5 g6 q
   simp only [fndL]at fin' ⊢
   refine go (fin' q hd' rg' _ g1 g2 g3 g4 g5 g6 drp)
  ·rw [eh]
   intro hd' rg' g1 g2 g3 g4 g5 g6
   simp only [fndL]at fin' ⊢
   refine go (fin' q hd' rg' _ g1 g2 g3 g4 g5 g6 drp))⟩
instance c391 [o:Ob dialC cs b x put] {t1 t2 t3 t4 t5 t6:Int} {a:Option Addr} {n c:Nat}:Go1 (fn 391 [.pointer (some (ad b 0)),.agg ⟨[.int .i64 t1,.int .i64 t2,.int .i64 t3,.int .i64 t4,.int .i64 t5,.int .i64 t6]⟩,.agg ⟨opCells x.d.op a n c⟩] K cs) ((x.d.status=0∧x.d.op.kind=2∧OpR [x.sc.ch] (opCells x.d.op a n c) x.d.op)∧∀x':Dl,x'.d=(x.d.look ⟨t1,t2,t3,t4,t5,t6⟩ x.d.op).2→K (.agg ⟨stC (x.d.look ⟨t1,t2,t3,t4,t5,t6⟩ x.d.op).1⟩) (put (dialC b x'))):=d391 (y:=⟨t1,t2,t3,t4,t5,t6⟩) o
theorem d337 (o:Ob dialC cs b x put) {y:StepM}:Go1 (fn 337 [.pointer (some (ad b 0)),.agg ⟨stC y⟩] K cs) (x.d.status=0∧∀x':Dl,x'.d=(x.d.does y).2→K (.agg ⟨stC (x.d.does y).1⟩) (put (dialC b x'))):=⟨fun⟨hst,h⟩=>
 up0 (f337 (by
 unfold s337
 unfold Dia.does at h
 refine goj fun b1 b2=>⟨fun c1=> ?_,fun c1 a n c ro b3=> ?_⟩
 ·rw [if_pos c1]at h
  have hs:=over_status c1
  simp only [beq_iff_eq,beq_eq_false_iff_ne,ne_eq]
  refine⟨fun c2=>⟨by omega,fun x' hx'=>fin (keq (h x' hx') ?_)⟩,fun c2=>⟨by omega,fun x' hx'=>fin (keq (h x' hx') ?_)⟩⟩
  ·rw [if_pos c2]
  ·rw [if_neg c2]
 ·rw [if_neg (by simp [c1])]at h
  simp only [beq_iff_eq,beq_eq_false_iff_ne,ne_eq]
  have a0:=x.ok.a0
  have a1:=x.ok.a1
  have hl:=(goodP_facts x.ok.pg).2.2.1
  refine⟨fun c2=>⟨c2,fun x' hx'=> ?_⟩,fun c2=>⟨fun c3=>⟨⟨hst,c3,ro⟩,fun x' hx'=> ?_⟩,fun c3=>⟨fun c4=>⟨?_,fun x' hx'=> ?_⟩,fun c4=>⟨fun c5=>⟨?_,fun x' hx'=> ?_⟩,fun c5=>⟨fun c6=>⟨by simp,fun x' hx'=> ?_⟩,fun c6=>⟨by simp,fun x' hx'=> ?_⟩⟩⟩⟩⟩⟩
  ·rw [if_pos c2]at h
   exact fin (h x' hx')
  ·rw [if_neg c2,if_pos c3]at h
   exact fin (h x' hx')
  ·exact .inr (comes_iff.1 (op_goto x.ok.pg c4).1).2
  ·rw [if_neg c2,if_neg c3,if_pos c4]at h
   exact fin (h x' hx')
  ·have:=(op_pause x.ok.pg c5).2
   rw [w64_id (by omega)];omega
  ·have:=(op_pause x.ok.pg c5).2
   rw [w64_id (by omega)]at hx'
   rw [if_neg c2,if_neg c3,if_neg c4,if_pos c5]at h
   exact fin (h x' hx')
  ·rw [if_neg c2,if_neg c3,if_neg c4,if_neg c5,if_pos c6]at h
   exact fin (h x' hx')
  ·rw [if_neg c2,if_neg c3,if_neg c4,if_neg c5,if_neg c6]at h
   exact fin (h x' hx')))⟩
instance c337 [o:Ob dialC cs b x put] {t1 t2 t3 t4 t5 t6:Int}:Go1 (fn 337 [.pointer (some (ad b 0)),.agg ⟨[.int .i64 t1,.int .i64 t2,.int .i64 t3,.int .i64 t4,.int .i64 t5,.int .i64 t6]⟩] K cs) (x.d.status=0∧∀x':Dl,x'.d=(x.d.does ⟨t1,t2,t3,t4,t5,t6⟩).2→K (.agg ⟨stC (x.d.does ⟨t1,t2,t3,t4,t5,t6⟩).1⟩) (put (dialC b x'))):=d337 (y:=⟨t1,t2,t3,t4,t5,t6⟩) o
theorem dKeep (o:Ob dialC cs b x put) {F c:St} {v:Value} (h:K v cs) (hi:Imp c (dParts b x++F)):∃parts',Imp c (parts'++F)∧K v (put parts'.flatten):=⟨dParts b x,hi,by rw [dParts_eq,o.same];exact h⟩
instance c246 [o:Ob dialC cs b x put] {now:Int}:Go1 (fn 246 [.pointer (some (ad b 0)),.int .i64 now] K cs) (K (.bool (x.d.readyAt now)) cs):=⟨fun h=>o.fn (dParts b x) (dParts_eq x) fun F=>f246 (by
 have dk:∀{c:St} {t:Bool},t=x.d.readyAt now→Imp c (dParts b x++F)→∃parts',Imp c (parts'++F)∧K (.bool t) (put parts'.flatten):=fun e hi=>dKeep o (e▸h) hi
 simp only [dParts,List.cons_append,List.nil_append]at dk ⊢
 unfold s246
 unfold Dia.readyAt Dia.op at dk
 have hs:=x.hd.h0
 have hq:=x.rg.q_length
 rw [x.h1]at hq
 refine go ⟨fun c1=>dk (by rw [if_pos c1]) drp,fun c1=>⟨x.ok.a0,fun a n c ro=> ?_⟩⟩
 simp only [c1,Bool.false_eq_true,if_false]at dk
 rw [x.hp]at ro ⊢
 simp only [beq_iff_eq,beq_eq_false_iff_ne,ne_eq,decide_eq_true_eq,decide_eq_false_iff_not]
 have ew:x.d.win.fresh=x.hd.b.length-x.hd.seen:=by unfold Win.fresh;rw [x.h4,x.h5]
 refine⟨fun c2=>⟨x.ok.ou,dk ?_ drp⟩,fun c2=>⟨fun c3=>⟨fun c4=>dk ?_ drp,fun c4=>⟨fun c5=>dk ?_ drp,fun c5=>⟨fun c6=>dk ?_ drp,fun c6=>dk ?_ drp⟩⟩⟩,fun c3=>⟨fun c4=>dk ?_ drp,fun c4=>dk ?_ drp⟩⟩⟩
 ·rw [if_pos c2]
 ·rw [if_neg c2,if_pos c3]
  have:decide (0<x.d.win.fresh)=true:=by rw [decide_eq_true_eq,ew];omega
  rw [this];rfl
 ·rw [if_neg c2,if_pos c3]
  have:decide (0<x.d.inq.length)=true:=by rw [decide_eq_true_eq];omega
  rw [this];simp
 ·rw [if_neg c2,if_pos c3,c6];simp
 ·rw [if_neg c2,if_pos c3]
  have h1:decide (0<x.d.win.fresh)=false:=by rw [decide_eq_false_iff_not,ew];omega
  have h2:decide (0<x.d.inq.length)=false:=by rw [decide_eq_false_iff_not];omega
  rw [h1,h2,c6];rfl
 ·rw [if_neg c2,if_neg c3,if_pos c4]
 ·rw [if_neg c2,if_neg c3,if_neg c4])⟩
instance c161 [o:Ob dialC cs b x put] {now:Int}:Go1 (fn 161 [.pointer (some (ad b 0)),.int .i64 now] K cs) (K (.bool (x.d.ready now)) cs):=⟨fun h=>f161 (by
 unfold s161
 unfold Dia.ready at h
 have e:(if x.d.now>now then x.d.now else now)=max now x.d.now:=by omega
 refine go ⟨fun c1=> ?_,fun c1=> ?_⟩
 ·rw [c1]at h;rw [e];exact h
 ·rw [c1]at h;exact h)⟩
instance c167 [o:Ob dialC cs b x put]:Go1 (fn 167 [.pointer (some (ad b 0))] K cs) (K (.int .i64 x.d.next) cs):=⟨fun h=>f167 (by
 unfold s167
 unfold Dia.next at h
 refine go ⟨fun c1=> ?_,fun c1=> ?_⟩
 ·rw [if_neg (by simpa using c1)]at h;exact h
 ·rw [if_pos (by simpa using c1)]at h;exact h)⟩
instance c102 [o:Ob dialC cs b x put]:Go1 (fn 102 [.pointer (some (ad b 0))] K cs) (K (.int .i64 (x.d.room:Nat)) cs):=⟨fun h=>o.fn (dParts b x) (dParts_eq x) fun F=>f102 (by
 have dk:∀{c:St} {t:Int},t=(x.d.room:Nat)→Imp c (dParts b x++F)→∃parts',Imp c (parts'++F)∧K (.int .i64 t) (put parts'.flatten):=fun e hi=>dKeep o (e▸h) hi
 have fold:∀{K':Value→SP} {args:List Value} {g:FuncId},fn g args K' (dialC b x::F)→fn g args K' (dParts b x++F):=fun hh=>fn_imp (dFold x (Imp.refl _)) hh
 unfold s102
 refine fold ?_
 have hq:=x.rg.q_length
 rw [x.h1]at hq
 have h2:=x.h2
 refine go ⟨fun c1=>dk ?_ (dUn x),fun c1=>⟨fun c2=>dk ?_ (dUn x),fun c2=> ?_⟩⟩
 ·simp only [Bool.not_eq_true']at c1
  unfold Dia.room;rw [c1];rfl
 ·unfold Dia.room;rw [c2];simp
 ·refine fn_imp (dUn x) ?_
  simp only [dParts,List.cons_append,List.nil_append]at dk ⊢
  refine go (dk ?_ drp)
  simp only [Bool.not_eq_false']at c1
  unfold Dia.room Dia.fits;rw [c1,c2]
  simp only [Bool.not_false,Bool.and_self,if_true]
  omega)⟩
instance c104 [o:Ob dialC cs b x put]:Go1 (fn 104 [.pointer (some (ad b 0))] K cs) (K (.string x.d.out.peek) cs):=⟨fun h=>o.fn (dParts b x) (dParts_eq x) fun F=>f104 (by
 have dk:∀{c:St},Imp c (dParts b x++F)→∃parts',Imp c (parts'++F)∧K (.string x.d.out.peek) (put parts'.flatten):=fun hi=>dKeep o h hi
 unfold s104
 simp only [dParts,List.cons_append,List.nil_append]at dk ⊢
 refine go ⟨x.ok.ou,dk drp⟩)⟩
instance c163 [o:Ob dialC cs b x put]:Go1 (fn 163 [.pointer (some (ad b 0))] K cs) (K (.int .i64 x.d.price) cs):=⟨fun h=>o.fn (dParts b x) (dParts_eq x) fun F=>f163 (by
 have dk:∀{c:St} {t:Int},t=x.d.price→Imp c (dParts b x++F)→∃parts',Imp c (parts'++F)∧K (.int .i64 t) (put parts'.flatten):=fun e hi=>dKeep o (e▸h) hi
 unfold s163
 have hs:=x.hd.h0
 have hq:=x.rg.q_length
 rw [x.h1]at hq
 have ew:x.d.win.fresh=x.hd.b.length-x.hd.seen:=by unfold Win.fresh;rw [x.h4,x.h5]
 refine fn_imp (dFold x (Imp.refl _)) ?_
 refine go ⟨fun c1=>dk ?_ (dUn x),fun c1=> ?_⟩
 ·simp only [Bool.not_eq_true']at c1
  unfold Dia.price;rw [c1];rfl
 ·simp only [Bool.not_eq_false']at c1
  refine fn_imp (dUn x) ?_
  simp only [dParts,List.cons_append,List.nil_append]at dk ⊢
  refine goj ⟨x.ok.a0,fun a n c ro b1=> ?_⟩
  simp only [beq_iff_eq,beq_eq_false_iff_ne,ne_eq]
  refine⟨fun c2=>⟨x.ok.ou,dk ?_ ?_⟩,fun c2=>dk ?_ ?_⟩
  ·have c2':x.d.op.kind=1:=by have:=c2;rw [x.hp]at this;exact this
   unfold Dia.price;rw [c1,if_pos rfl,if_pos c2',ew,x.hp];rfl
  ·exact drp
  ·have c2':¬x.d.op.kind=1:=by have:=c2;rw [x.hp]at this;exact this
   unfold Dia.price;rw [c1,if_pos rfl,if_neg c2',ew,hq,x.hp];rfl
  ·exact drp)⟩
instance c237 [o:Ob dialC cs b x put] {s:ByteArray}:Go1 (fn 237 [.pointer (some (ad b 0)),.string s] K cs) (∀x':Dl,x'.d=x.d.put (bl s)→K (.int .i64 (x.d.puts (bl s):Nat)) (put (dialC b x'))):=⟨fun h=>o.fn (dParts b x) (dParts_eq x) fun F=>f237 (by
 unfold s237
 have hq:=x.rg.q_length
 rw [x.h1]at hq
 have h2:=x.h2
 have hok:=put_ok x.ok (bl s)
 refine fn_imp (dFold x (Imp.refl _)) ?_
 refine go ⟨fun c1=> ?_,fun c1=>⟨fun c2=> ?_,fun c2=> ?_⟩⟩
 ·simp only [Bool.not_eq_true']at c1
  have e1:x.d.put (bl s)=x.d:=by unfold Dia.put;rw [c1];rfl
  have e2:x.d.puts (bl s)=0:=by unfold Dia.puts;rw [c1];rfl
  rw [e1,e2]at h
  exact dShut x (dUn x) (h x rfl)
 ·have e1:x.d.put (bl s)=x.d:=by unfold Dia.put;rw [c2];simp
  have e2:x.d.puts (bl s)=0:=by unfold Dia.puts;rw [c2];simp
  rw [e1,e2]at h
  exact dShut x (dUn x) (h x rfl)
 ·simp only [Bool.not_eq_false']at c1
  have ef:x.d.fits=x.rg.buf.length-x.rg.n:=by unfold Dia.fits;omega
  have e1:x.d.put (bl s)={x.d with inq:=x.d.inq++(bl s).take x.d.fits}:=by simp only [Dia.put,c1,c2,Bool.not_false,Bool.and_self,if_true]
  have e2:x.d.puts (bl s)=min s.size (x.rg.buf.length-x.rg.n):=by unfold Dia.puts;rw [c1,c2,ef,bl_length];simp
  rw [e1,e2]at h
  rw [e1]at hok
  refine fn_imp (dUn x) ?_
  simp only [dParts,List.cons_append,List.nil_append]
  refine go fun rg' g1 g2=> ?_
  refine dShut ⟨{x.d with inq:=x.d.inq++(bl s).take x.d.fits},x.sc,x.rb,x.hb,x.ob,rg',x.hd,x.tr,x.hp,by rw [g1,x.h1,ef],by rw [g2];exact h2,x.h3,x.h4,x.h5,x.h6,hok⟩ ?_ (h _ rfl)
  dsimp only [dParts,List.cons_append,List.nil_append];exact drp)⟩
instance c239 [o:Ob dialC cs b x put]:Go1 (fn 239 [.pointer (some (ad b 0))] K cs) (∀x':Dl,x'.d=x.d.ends→K (.bool (x.d.runs&& !x.d.eof)) (put (dialC b x'))):=⟨fun h=>o.fn (dParts b x) (dParts_eq x) fun F=>f239 (by
 unfold s239
 have hok:=ends_ok x.ok
 refine fn_imp (dFold x (Imp.refl _)) ?_
 refine go ⟨fun c1=> ?_,fun c1=>⟨fun c2=> ?_,fun c2=> ?_⟩⟩
 ·simp only [Bool.not_eq_true']at c1
  have e1:x.d.ends=x.d:=by unfold Dia.ends;rw [c1];rfl
  rw [e1,c1]at h
  exact dShut x (dUn x) (h x rfl)
 ·simp only [Bool.not_eq_false']at c1
  have e1:x.d.ends=x.d:=by unfold Dia.ends;rw [c1];simp only [if_true];rw [←c2]
  rw [e1,c1,c2]at h
  exact dShut x (dUn x) (h x rfl)
 ·simp only [Bool.not_eq_false']at c1
  have e1:x.d.ends={x.d with eof:=true}:=by unfold Dia.ends;rw [c1];rfl
  rw [e1,c1,c2]at h
  rw [e1]at hok
  refine st_imp (dUn x) ?_
  simp only [dParts,List.cons_append,List.nil_append]
  refine go ?_
  refine dShut ⟨{x.d with eof:=true},x.sc,x.rb,x.hb,x.ob,x.rg,x.hd,x.tr,x.hp,x.h1,x.h2,x.h3,x.h4,x.h5,x.h6,hok⟩ ?_ (h _ rfl)
  dsimp only [dParts,List.cons_append,List.nil_append];exact drp)⟩
instance c240 [o:Ob dialC cs b x put] {n:Int}:Go1 (fn 240 [.pointer (some (ad b 0)),.int .i64 n] K cs) (∀x':Dl,x'.d=x.d.take n→K (.string (x.d.taken n)) (put (dialC b x'))):=⟨fun h=>o.fn (dParts b x) (dParts_eq x) fun F=>f240 (by
 unfold s240
 have hok:=take_ok x.ok n
 refine fn_imp (dFold x (Imp.refl _)) ?_
 refine go ⟨fun c1=> ?_,fun c1=> ?_⟩
 ·simp only [Bool.not_eq_true']at c1
  have e1:x.d.take n=x.d:=by unfold Dia.take;rw [c1];rfl
  have e2:x.d.taken n= .empty:=by unfold Dia.taken;rw [c1];rfl
  rw [e1,e2]at h
  exact dShut x (dUn x) (h x rfl)
 ·simp only [Bool.not_eq_false']at c1
  have e1:x.d.take n={x.d with out:=x.d.out.take n}:=by unfold Dia.take;rw [c1];rfl
  have e2:x.d.taken n=x.d.out.taken n:=by unfold Dia.taken;rw [c1];rfl
  rw [e1,e2]at h
  rw [e1]at hok
  refine fn_imp (dUn x) ?_
  simp only [dParts,List.cons_append,List.nil_append]
  refine go ⟨x.ok.ou,fun tr'=> ?_⟩
  refine dShut ⟨{x.d with out:=x.d.out.take n},x.sc,x.rb,x.hb,x.ob,x.rg,x.hd,tr',x.hp,x.h1,x.h2,x.h3,x.h4,x.h5,x.h6,hok⟩ ?_ (h _ rfl)
  dsimp only [dParts,List.cons_append,List.nil_append];exact drp)⟩
instance c236 [o:Ob dialC cs b x put] {t:Int}:Go1 (fn 236 [.pointer (some (ad b 0)),.int .i64 t] K cs) (∀x':Dl,x'.d=x.d.cut t→K undef (put (dialC b x'))):=⟨fun h=>o.fn (dParts b x) (dParts_eq x) fun F=>f236 (by
 unfold s236
 have hok:=cut_ok x.ok t
 refine fn_imp (dFold x (Imp.refl _)) ?_
 refine go ⟨fun c1=> ?_,fun c1=> ?_⟩
 ·have e1:x.d.cut t={x.d with due:=x.d.due.cuts t}:=by unfold Dia.cut;rw [c1];rfl
  rw [e1]at h hok
  refine st_imp (dUn x) ?_
  simp only [dParts,List.cons_append,List.nil_append]
  refine go ?_
  refine dShut ⟨{x.d with due:=x.d.due.cuts t},x.sc,x.rb,x.hb,x.ob,x.rg,x.hd,x.tr,x.hp,x.h1,x.h2,x.h3,x.h4,x.h5,x.h6,hok⟩ ?_ (h _ rfl)
  dsimp only [dParts,List.cons_append,List.nil_append];exact drp
 ·have e1:x.d.cut t=x.d:=by unfold Dia.cut;rw [c1];rfl
  rw [e1]at h
  exact dShut x (dUn x) (h x rfl))⟩
instance c253 [o:Ob dialC cs b x put] {now:Int}:Go1 (fn 253 [.pointer (some (ad b 0)),.int .i64 now] K cs) (now≤never∧(x.d.step now=none→K (.tuple ⟨[.agg ⟨st0⟩,.bool false]⟩) cs)∧∀y d',x.d.step now=some (y,d')→∀x':Dl,x'.d=d'→K (.tuple ⟨[.agg ⟨stC y⟩,.bool true]⟩) (put (dialC b x'))):=⟨fun⟨hn,h1,h2⟩=>o.fn (dParts b x) (dParts_eq x) fun F=>f253 (by
 unfold s253
 simp only [dParts,List.cons_append,List.nil_append]
 refine go fun b1=> ?_
 refine fn_imp (cs':=bk b1 99 st0::dialC b x::F) (by simp only [dialC];exact drp) ?_
 refine go ⟨fun c1=> ?_,fun c1=> ?_⟩
 ·have:x.d.step now=none:=by unfold Dia.step;rw [if_neg (by simpa using c1)]
  exact dKeep o (h1 this) (Imp.trans drp (dUn x))
 ·have c1':x.d.ready now=true:=by simpa using c1
  have hst:x.d.status=0:=by
   unfold Dia.ready at c1'
   simp only [Bool.and_eq_true]at c1'
   have:=c1'.1
   unfold Dia.runs at this
   simpa using this
  have hs:x.d.step now=some ({(x.d.did now).1 with status:=(x.d.did now).2.status},(x.d.did now).2):=by unfold Dia.step;rw [if_pos c1']
  have h2':=h2 _ _ hs
  have em:(if now>x.d.now then now else x.d.now)=max x.d.now now:=by omega
  rw [em]
  have hok:=tick_ok x.ok hn
  have hdd:x.d.did now=(x.d.tick now).does ⟨max x.d.now now,x.d.at_,0,0,0,0⟩:=rfl
  refine st_imp (cs':=bk b1 99 st0::bk b 311 (dCells x.d x.sc.a x.sc.n x.sc.c x.rb x.hb x.ob)::x.sc.ch::ringC x.rb x.rg::holdC x.hb x.hd::pendC x.ob (x.d.out,x.tr)::F) (by simp only [dialC];exact drp) ?_
  refine go ?_
  refine⟨fun l cx=>∃q x1,l=[.pointer (some (ad q 0))]∧Dl.d x1=(x.d.did now).2∧Imp cx (bk q 99 (stC (x.d.did now).1)::bk b1 99 st0::dialC b x1::F),?_,?_⟩
  ·rintro l cx ⟨q,x1,rfl,e1,hi⟩
   refine⟨_,hi,?_⟩
   rw [←e1]at h2'
   refine go ?_
   exact dShut x1 (Imp.trans drp (dUn x1)) (h2' x1 rfl)
  ·let xt:Dl:=⟨x.d.tick now,x.sc,x.rb,x.hb,x.ob,x.rg,x.hd,x.tr,x.hp,x.h1,x.h2,x.h3,x.h4,x.h5,x.h6,hok⟩
   have ext:xt.d=x.d.tick now:=rfl
   have ht:∀G:St,Imp (bk b 311 (dCells (x.d.tick now) x.sc.a x.sc.n x.sc.c x.rb x.hb x.ob)::x.sc.ch::ringC x.rb x.rg::holdC x.hb x.hd::pendC x.ob (x.d.out,x.tr)::G) (dialC b xt::G):=fun G=>Imp.of_sub (l:=[]) (by simp [dialC,xt,Dia.tick])
   refine go ⟨?_,fun b2=> ?_⟩
   ·refine fn_imp (cs':=dialC b xt::bk b1 99 st0::F) (Imp.trans (by simp only [Dia.tick];exact drp) (ht _)) ?_
    refine go ⟨hst,fun x' hx' b3=> ?_⟩
    refine⟨b3,x',rfl,hx',?_⟩
    simp only [ext,←hdd];exact drp
   ·refine fn_imp (cs':=dialC b xt::bk b2 99 st0::bk b1 99 st0::F) (Imp.trans (by simp only [Dia.tick];exact drp) (ht _)) ?_
    refine go ⟨hst,fun x' hx'=> ?_⟩
    refine⟨b2,x',rfl,hx',?_⟩
    simp only [ext,←hdd];exact drp)⟩
end
section
variable {cs:St} {K:Value→SP}
instance bd311:BdT 311 [(0,6),(6,4),(10,1),(11,1),(12,1),(13,3),(16,1),(17,1),(18,1),(19,1),(20,1)] [.int .i64 0,.int .i64 0,.int .i64 0,.int .i64 0,.int .i64 0,.int .i64 0,.string .empty,.int .i64 0,.int .i64 0,.slice none 0 0,.int .i64 0,.int .i64 0,.int .i64 0,.int .i64 0,.int .i64 0,.int .i64 0,.pointer none,.pointer none,.pointer none,.bool false,.int .i64 0]:=⟨by kernel_rfl⟩
instance c149 {v:List Value} {su:Setup} {p:PrM} {now:Int} [r:PrR cs v p]:Go1 (fn 149 [.agg ⟨suC su⟩,.agg ⟨v⟩,.int .i64 now] K cs) ((good su=true∧goodP p=true∧p.Fit∧now≤never)∧∀b x,Dl.d x=Dia.new su p now→K (.tuple ⟨[.pointer (some (ad b 0)),.int .i64 0]⟩) (dialC b x::cs)):=⟨fun⟨⟨hg,hp,hf,hn⟩,h⟩=>up0 (f149 (by
 obtain⟨a,n,c,L,hv,h2,h3,h4⟩:=r.h
 subst hv
 have hj:=goodP_facts hp
 have hgf:=good_facts hg
 have hnv:=nev
 unfold s149
 have e1:min (max su.ring 1) 4096=su.ring:=by omega
 have e2:min (max su.win 1) 4096=su.win:=by omega
 have ol:own now≤never:=own_le hn
 refine go fun b1 b2=>⟨fun c1=>absurd hg (by simpa using c1),fun _=>⟨hf,fun c1=>absurd hp (by simpa using c1),fun _=>⟨hf,fun sc hsc=> ?_⟩⟩⟩
 refine go fun b=>⟨⟨ol,by rcases hj.1 with h | h <;>omega⟩,fun rb rg r1 r2 r3 hb hd k1 k2 k3 k4 ob=> ?_⟩
 rw [e1]at r3
 rw [e2]at k1
 let x0:Dl0:=⟨⟨su,p,0,0,0,Due.begin (own now) p.dl,[],⟨[],0,none⟩,Wtr.new su.out,false,own now⟩,sc,rb,hb,ob,rg,hd,0,hsc,r1,r3,k1,k2,k3,k4,new_ok0 hg hp hf hn⟩
 refine fn_imp (cs':=bk b 311 (dCells x0.d x0.sc.a x0.sc.n x0.sc.c x0.rb x0.hb x0.ob)::x0.sc.ch::ringC x0.rb x0.rg::holdC x0.hb x0.hd::pendC x0.ob (x0.d.out,x0.tr)::cs) ?_ ?_
 ·rw [hsc]
  simp only [x0]
  exact drp
 ·refine fn_weak (fun v c ⟨c',hi,x',hc,hv,hx⟩=> ?_) (come_parts (x:=x0) (F:=cs) (Int.le_refl _) (Int.natCast_nonneg _) (K:=fun v c=>∃x':Dl,c=dParts b x'++cs∧v=undef∧x'.d=Dia.new su p now) fun x' hx'=>⟨x',rfl,rfl,hx'⟩)
  subst hv
  refine go ⟨_,?_,h b x' hx⟩
  rw [hc]at hi
  exact hi.trans (Imp.of_sub (l:=[]) (by simp [dParts,dialC]))))⟩
end
end Go.Proofs.YtbjlfobjngogkaaGreatDoor
namespace Go.Proofs.YtbjlfobjngogkaaGreatDoor
def StepM.zero:StepM:=⟨0,0,0,0,0,0⟩
structure EvM where
 kind:Int
 id:Int
 n:Int
 tick:Int
 bytes:ByteArray
 err:Int
 step:StepM
structure Seat where
 id:Int
 d:Dia
 q:List UInt8
 eof:Bool
structure OfferM where
 id:Int
 bytes:ByteArray
 eof:Bool
structure ReportM where
 id:Int
 read:Bool
 write:Bool
 accept:Int
structure RoundM where
 ticks:Int
 opens:List Int
 offers:List OfferM
 reports:List ReportM
 drain:Int
 abort:Bool
structure Eng where
 s:Setup
 scripts:List PrM
 slots:Slots
 seats:List (Option Seat)
 turns:Turns
 tm:List Int
 clock:Int
 drains:Bool
 stopped:Bool
 out:List EvM
def evRound (t:Int):EvM:=⟨1,0,0,t,.empty,0,StepM.zero⟩
def evOpen (id n:Int):EvM:=⟨2,id,n,0,.empty,0,StepM.zero⟩
def evRefuse (id n err:Int):EvM:=⟨3,id,n,0,.empty,err,StepM.zero⟩
def evRead (id:Int) (b:ByteArray):EvM:=⟨4,id,b.size,0,b,0,StepM.zero⟩
def evEof (id:Int):EvM:=⟨5,id,0,0,.empty,0,StepM.zero⟩
def evWrite (id:Int) (b:ByteArray):EvM:=⟨6,id,b.size,0,b,0,StepM.zero⟩
def evDrain (t:Int):EvM:=⟨7,0,0,t,.empty,0,StepM.zero⟩
def evStep (id:Int) (y:StepM):EvM:=⟨8,id,0,0,.empty,0,y⟩
def evStop:EvM:=⟨9,0,0,0,.empty,0,StepM.zero⟩
def Eng.new (s:Setup) (scripts:List PrM):Eng:=⟨s,scripts,Slots.new s.live,List.replicate s.live.toNat none,Turns.new s.live s.quantum,List.replicate s.live.toNat never,0,false,false,[]⟩
def Eng.tell (e:Eng) (x:EvM):Eng:={e with out:=e.out++[x]}
def Eng.seat (e:Eng) (k:Nat):Option Seat:=e.seats.getD k none
def Eng.setSeat (e:Eng) (k:Nat) (x:Option Seat):Eng:={e with seats:=e.seats.set k x}
def Eng.settle (e:Eng) (k:Nat):Eng:=match e.seat k with
 | none=>e
 | some x=>{e with tm:=tmSet e.tm k x.d.next,turns:=if x.d.ready e.clock then e.turns.wake k else e.turns}
def Eng.gone (e:Eng) (k:Nat) (id:Int):Eng:={e with slots:=e.slots.close id,seats:=e.seats.set k none,turns:=e.turns.leave k,tm:=e.tm.set k never}
def Eng.step (e:Eng) (k:Nat):Bool×Eng:=match e.seat k with
 | none=>(false,e)
 | some x=>match x.d.step e.clock with
  | none=>if x.d.status=0 then(true,e)else(false,e.gone k x.id)
  | some y=>if y.2.status=0 then(true,(e.setSeat k (some {x with d:=y.2})).tell (evStep x.id y.1))
   else(false,((e.setSeat k (some {x with d:=y.2})).tell (evStep x.id y.1)).gone k x.id)
def Eng.refused (e:Eng) (n:Int):Int:=
 if n<0∨n≥e.scripts.length then 5
 else if goodP (e.scripts.getD n.toNat PrM.zero)=false then 2
 else if e.drains then 8
 else if e.slots.next≥4096 then 4
 else if e.slots.free=0 then 7
 else 0
def Eng.open (e:Eng) (n:Int):Eng:=
 if e.refused n≠0 then{e with slots:=e.slots.skip,out:=e.out++[evRefuse e.slots.skipped n (e.refused n)]}
 else({e with slots:=e.slots.open,seats:=e.seats.set e.slots.first (some ⟨e.slots.next,Dia.new e.s (e.scripts.getD n.toNat PrM.zero) e.clock,[],false⟩),out:=e.out++[evOpen e.slots.next n]}:Eng).settle e.slots.first
def Eng.offer (e:Eng) (o:OfferM):Eng:=match e.slots.slot o.id with
 | none=>e
 | some k=>match e.seat k with
  | none=>e
  | some x=>if x.eof=true∨4096<o.bytes.size then e else e.setSeat k (some {x with q:=x.q++o.bytes.data.toList,eof:=o.eof})
def Eng.cut1 (at_:Int) (now:Bool) (e:Eng) (id:Int):Eng:=match e.slots.slot id with
 | none=>e
 | some k=>match e.seat k with
  | none=>e
  | some x=>if now=false then(e.setSeat k (some {x with d:=x.d.cut at_})).settle k
   else if((e.setSeat k (some {x with d:=x.d.cut at_})).step k).1 then((e.setSeat k (some {x with d:=x.d.cut at_})).step k).2.settle k
   else((e.setSeat k (some {x with d:=x.d.cut at_})).step k).2
def Eng.cut (e:Eng) (at_:Int) (now:Bool):Eng:=
 e.slots.live.foldl (Eng.cut1 at_ now) {e with drains:=true,out:=e.out++[evDrain at_]}
def Eng.drain (e:Eng) (r:RoundM):Eng:=
 if r.abort=true∧e.stopped=false then e.cut e.clock true
 else if r.abort=false∧r.drain>0∧e.drains=false then e.cut (tadd e.clock (r.drain-1)) false
 else e
def Seat.reads (x:Seat):List UInt8:=x.q.take x.d.room
def Seat.read1 (x:Seat):Seat:={x with q:=x.q.drop x.d.room,d:=x.d.put (x.q.take x.d.room)}
def Seat.over (x:Seat):Bool:=x.eof&&x.q.isEmpty
def Eng.read (e:Eng) (k:Nat):Eng:=match e.seat k with
 | none=>e
 | some x=>
  if x.d.room=0 then e
  else
   let e1:=if x.reads=[]then e else(e.setSeat k (some x.read1)).tell (evRead x.id ⟨⟨x.reads⟩⟩)
   let x1:=if x.reads=[]then x else x.read1
   if x1.over&&(x1.d.runs&& !x1.d.eof)then(e1.setSeat k (some {x1 with d:=x1.d.ends})).tell (evEof x.id)else e1
def Eng.write (e:Eng) (k:Nat) (accept:Int):Eng:=match e.seat k with
 | none=>e
 | some x=>if(x.d.taken accept).size=0 then e.setSeat k (some {x with d:=x.d.take accept})
  else(e.setSeat k (some {x with d:=x.d.take accept})).tell (evWrite x.id (x.d.taken accept))
def Eng.reported (e:Eng) (r:ReportM) (k:Nat):Eng:=
 let e1:=if r.read then e.read k else e
 if r.write then e1.write k r.accept else e1
def Eng.report (e:Eng) (r:ReportM):Eng:=match e.slots.slot r.id with
 | none=>e
 | some k=>if(e.reported r k).out.length>e.out.length then(e.reported r k).settle k else e.reported r k
def Eng.spend:Nat→Eng→Nat→Bool×Eng
 | 0,e,_=>(true,e)
 | f+1,e,k=>match e.seat k with
  | none=>(false,e)
  | some x=>
   if x.d.ready e.clock then
    (if(e.turns.pay x.d.price).2 then
     (if(({e with turns:=(e.turns.pay x.d.price).1}:Eng).step k).1 then Eng.spend f (({e with turns:=(e.turns.pay x.d.price).1}:Eng).step k).2 k
     else(false,(({e with turns:=(e.turns.pay x.d.price).1}:Eng).step k).2))
    else(true,e))
   else(true,e)
def Eng.rest (e:Eng) (k:Nat):Eng:=match e.seat k with
 | none=>e
 | some x=>{e with turns:=e.turns.fin (x.d.ready e.clock),tm:=tmSet e.tm k x.d.next}
def Eng.turn (e:Eng):Bool×Eng:=match e.turns.begin.2 with
 | none=>(false,e)
 | some k=>
  let y:=Eng.spend ((e.turns.begin.1.has.getD k 0).toNat+1) {e with turns:=e.turns.begin.1} k
  if y.1 then(true,y.2.rest k)else(true,y.2)
def Eng.visit:Nat→Eng→Eng
 | 0,e=>e
 | v+1,e=>if e.turn.1 then Eng.visit v e.turn.2 else e
def Eng.wakeAll (e:Eng):Eng:=(tmDue e.tm.length e.tm e.clock).1.foldl (fun e t=>e.settle t.2) {e with tm:=(tmDue e.tm.length e.tm e.clock).2}
def Eng.halt (e:Eng):Eng:=if e.drains&& !e.stopped&&e.slots.live.isEmpty then{e with stopped:=true,out:=e.out++[evStop]} else e
def Eng.start (e:Eng) (r:RoundM):Eng:={e with clock:=min (tadd e.clock r.ticks) (never-1),out:=[evRound (min (tadd e.clock r.ticks) (never-1))]}
def Eng.told (e:Eng) (r:RoundM):Eng:=r.reports.foldl Eng.report ((r.offers.foldl Eng.offer (r.opens.foldl Eng.open (e.start r))).drain r)
def Eng.round (e:Eng) (r:RoundM):Eng:=(Eng.visit e.s.visits.toNat (e.told r).wakeAll).halt
end Go.Proofs.YtbjlfobjngogkaaGreatDoor
