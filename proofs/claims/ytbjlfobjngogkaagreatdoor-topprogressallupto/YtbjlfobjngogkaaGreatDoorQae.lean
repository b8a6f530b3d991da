/- Part of a proof over this seat: contracts of functions and plain laws, joined by program out of smaller texts. Conditions: those that each theorem states. -/
import Derived.Test.YtbjlfobjngogkaaGreatDoorQad
namespace Go.Proofs.YtbjlfobjngogkaaGreatDoor
open Go
set_option synthInstance.maxSize 100000
set_option synthInstance.maxHeartbeats 1000000
set_option maxRecDepth 100000
class EOne {α:Type} {sz:Nat} (e:Enc α sz):Prop where
 h:∀x,∀u∈e.f x,one u=true
instance:EOne encI64:=⟨fun x u hu=>by simp at hu;subst hu;rfl⟩
instance:EOne encEv:=⟨fun x u hu=>by simp at hu;rcases hu with rfl | rfl | rfl | rfl | rfl | rfl | rfl | rfl | rfl | rfl | rfl | rfl <;>rfl⟩
instance (priority:=500) appRow {α:Type} {cs:St} {t ty T sz by_ n c n2 c2:Nat} {e:Enc α sz} {a a2:Option Addr} {l l2:List α} {ch:Chunk} {put:Chunk→St} {K:Value→SP} [p:SlcT t T sz by_] [r:Row T sz a n c e l ch] [at_:ChAt cs ch put] [r2:Rw T sz cs a2 n2 c2 e l2] [o1:EOne e]:
  Go1 (sm (Builtin.append_ ⟨[t,t]⟩ ty ⟨[.slice a n c,.slice a2 n2 c2]⟩) K cs)
   (((n+n2)*by_≤140737488355328∧n+n2≤9223372036854775807)∧∀a' c' ch',Row T sz a' (n+n2) c' e (l++l2) ch'→K (.slice a' (n+n2) c') (put ch')):=⟨fun⟨⟨h1,h2⟩,h⟩=>by
 obtain⟨k,hk,hput⟩:=at_.h
 have hl:=r2.h.len
 by_cases h0:n2=0
 ·subst h0
  have hz:l2=[]:=List.length_eq_zero_iff.1 hl.symm
  subst hz
  refine app_zero p r.cap.1 ?_
  have:=h a c ch (by rw [List.append_nil];exact r)
  rw [hput,set_same hk]at this
  exact this
 ·obtain⟨b,rfl,hr⟩:=rows_reads r2.h (by omega)
  refine app_at k hk r.h (m:=n2) (news:=l2.flatMap e.f) (by rw [e.flat_len,←hl]) hr (fun u hu=> ?_) (by omega) h1 h2 (fun v' ch' hs=> ?_) p.h
  ·obtain⟨x,_,hx⟩:=List.mem_flatMap.1 hu
   exact o1.h x u hx
  ·obtain⟨a',c',rfl⟩:=hs.val
   rw [←hput]
   refine h a' c' ch' ⟨?_⟩
   rw [List.flatMap_append]
   exact hs⟩
instance cvCap {cs:St} {K:Value→SP} {f:Nat} {c:Value} {args:List Value}:Go1 (cv (.func (.func f) ⟨[]⟩ ⟨[c]⟩) args K cs) (fn f (args++[c]) K cs):=⟨fun h=>⟨f,⟨[]⟩,⟨[c]⟩,rfl,by simpa [fn]using h⟩⟩
instance cvPlain {cs:St} {K:Value→SP} {f:Nat} {args:List Value}:Go1 (cv (.func (.func f) ⟨[]⟩ ⟨[]⟩) args K cs) (fn f args K cs):=⟨fun h=>⟨f,⟨[]⟩,⟨[]⟩,rfl,by simpa [fn]using h⟩⟩
class DlF (g:FuncId) (f:outParam (Dia→Nat)):Prop where
 h:∀{cs:St} {b:Nat} {x:Dl} {put:Chunk→St} {K:Value→SP} [Ob dialC cs b x put],K (.int .i64 (f x.d:Nat)) cs→fn g [.pointer (some (ad b 0))] K cs
instance:DlF 102 Dia.room:=⟨fun{cs b x put K} o h=>(c102 (o:=o)).h h⟩
instance:DlF 103 (fun d=>d.out.peek.size):=⟨fun{cs b x put K} o h=>f103 (by unfold s103;exact go h)⟩
section
variable {cs:St} {b:Nat} {x:En} {put:Chunk→St} {K:Value→SP}
theorem eKeepf (o:Ob engC cs b x put) {F c:St} {v:Value} {ch:Chunk} (h:K v (ch::cs)) (hi:Imp c (ch::(eParts b x++F))):∃front parts',Imp c (front++(parts'++F))∧K v (front++put parts'.flatten):=
 ⟨[ch],eParts b x,hi,by have:=o.same;rw [show(eParts b x).flatten=engC b x from rfl,this];exact h⟩
instance c29 [o:Ob engC cs b x put]:Go1 (fn 29 [.pointer (some (ad b 0))] K cs) (∀a n c ch,Row 3 1 a n c encI64 x.m.slots.live ch→K (.slice a n c) (ch::cs)):=⟨fun h=>o.fnf (eParts b x) rfl fun F=>f29 (by
 unfold s29
 simp only [eParts,List.cons_append,List.nil_append]
 rw [←x.r1]at h
 refine go fun a n c ch r=> ?_
 exact eKeepf o (h a n c ch r) (by dsimp only [eParts,List.cons_append,List.nil_append];exact drp))⟩
theorem c101t {g:Nat} {f:Dia→Nat} [q:DlF g f] [o:Ob engC cs b x put] (h:∀a n c ch,Row 3 1 a n c encI64 (x.m.those f) ch→K (.slice a n c) (ch::cs)):fn 101 [.pointer (some (ad b 0)),.func (.func g) ⟨[]⟩ ⟨[]⟩] K cs:=o.fnf (eParts b x) rfl fun F=>f101 (by
 unfold s101
 simp only [eParts,List.cons_append,List.nil_append]
 have hll:=x.ok.live_le
 refine go fun al nl cl chl rl=> ?_
 rw [x.r1]at rl
 have hnl:=rl.len
 generalize hp:(fun id=>match x.m.slots.slot id with
  | none=>false
  | some k=>match x.m.seat k with
   | none=>false
   | some x=>decide (0<f x.d))=p
 have hth:x.m.those f=x.m.slots.live.filter p:=by rw [←hp];rfl
 refine lp (fun y:Nat×Option Addr×Nat×Nat×Chunk=>[.slice y.2.1 y.2.2.1 y.2.2.2.1,.int .i64 y.1]) (fun y=>engC b x::chl::y.2.2.2.2::F) (fun y=>y.1≤nl∧Row 3 1 y.2.1 y.2.2.1 y.2.2.2.1 encI64 ((x.m.slots.live.take y.1).filter p) y.2.2.2.2) (fun y=>nl-y.1)
  (0,none,0,0,[]) rfl (Imp.trans (by dsimp only [eParts,List.cons_append,List.nil_append];exact drp) (Imp.trans (eShut (b:=b) (x:=x) (F:=chl::F)) drp)) ⟨Nat.zero_le _,⟨Sl.nil⟩⟩ ?_
 rintro⟨i,a,n,c,ch⟩ ⟨i1,i2⟩
 dsimp only at *
 have hlen:=i2.len
 have hfl:((x.m.slots.live.take i).filter p).length≤i:=Nat.le_trans (List.length_filter_le _ _) (by rw [List.length_take];omega)
 refine go ?_
 simp only [decide_eq_true_eq,decide_eq_false_iff_not,Int.toNat_natCast,id]
 refine⟨fun c0=>⟨by omega,fun id hid=> ?_⟩,fun c0=> ?_⟩
 ·have hil:=lt_of_get hid
  have et:x.m.slots.live.take (i+1)=x.m.slots.live.take i++[id]:=by
   rw [List.take_succ_eq_append_getElem hil]
   rw [List.getElem?_eq_getElem hil]at hid
   rw [Option.some.inj hid]
  rw [w64_succ (by omega)]
  obtain⟨k,y,hk,hyid⟩:=x.ok.sits_iff.1 (List.mem_of_getElem? hid)
  have hslot:=x.ok.slot_of hk
  rw [hyid]at hslot
  obtain⟨sh,hg,hm⟩:=x.seat_iff.1 hk
  refine⟨fun hs=>absurd hs (by rw [hslot];simp),fun k' sh' hs hg' hid'=> ?_⟩
  rw [hslot]at hs;cases hs
  rw [hg]at hg';cases hg'
  have rd:RdB (engC b x::chl::ch::F) sh.sb 197 (sCells sh):=⟨by
   have:engC b x=(eFoc b x k sh).flatten:=(eFoc_eq hg).symm
   rw [this];exact Rd.in (i:=0) rfl (by simp [bk])⟩
  refine go ?_
  refine fn_imp (cs':=eFoc b x k sh++(chl::ch::F)) (eLayF (b:=b) hg) ?_
  simp only [List.cons_append,List.nil_append]
  refine DlF.h (g:=g) ?_
  refine go ?_
  have hpv:p id=decide (0<f sh.dl.d):=by
   rw [←hp]
   show(match x.m.slots.slot id with
    | none=>false
    | some k=>match x.m.seat k with
     | none=>false
     | some x=>decide (0<f x.d))=_
   rw [hslot];dsimp only;rw [hk,←hm];rfl
  have hi:∀{ch'},Imp (bk b 174 (eCells x)::x.scs.ch::slotsC x.slb x.slx::x.srch::turnsC x.tb x.tx::hpC x.hb x.hx::mpC mvI x.mr x.M::x.och::seatsC (List.take k x.seats)::bk sh.sb 197 (sCells sh)::dialC sh.db sh.dl::wireC sh.wb sh.wi::seatsC (List.drop (k+1) x.seats)::chl::ch'::F) (engC b x::chl::ch'::F):=eShutF (b:=b) hg
  simp only [decide_eq_true_eq,decide_eq_false_iff_not]
  refine⟨fun c1=>⟨⟨by omega,by omega,by omega⟩,id,rfl,fun a' c' ch' r'=>⟨(i+1,a',n+1,c',ch'),rfl,hi,⟨by omega,?_⟩,by simp only;omega⟩⟩,fun c1=>⟨(i+1,a,n,c,ch),rfl,hi,⟨by omega,?_⟩,by simp only;omega⟩⟩
  ·rw [et,List.filter_append,List.filter_cons,hpv,if_pos (by simpa using c1)]
   exact r'
  ·rw [et,List.filter_append,List.filter_cons,hpv,if_neg (by simpa using c1),List.filter_nil,List.append_nil]
   exact i2
 ·have e:i=nl:=by omega
  subst e
  rw [hnl,List.take_length]at i2
  rw [hth]at h
  refine⟨[ch],eParts b x,?_,?_⟩
  ·exact Imp.trans (Imp.trans (eLay (b:=b)) (by dsimp only [eParts,List.cons_append,List.nil_append];exact drp)) (Imp.refl _)
  ·have:=o.same
   rw [show(eParts b x).flatten=engC b x from rfl,this]
   exact h _ _ _ _ i2)
instance c32 [o:Ob engC cs b x put]:Go1 (fn 32 [.pointer (some (ad b 0))] K cs) (∀a n c ch,Row 3 1 a n c encI64 (x.m.those Dia.room) ch→K (.slice a n c) (ch::cs)):=⟨fun h=>f32 (by
 unfold s32
 exact c101t (f:=Dia.room) fun a n c ch r=>go (h a n c ch r))⟩
instance c33 [o:Ob engC cs b x put]:Go1 (fn 33 [.pointer (some (ad b 0))] K cs) (∀a n c ch,Row 3 1 a n c encI64 x.m.writes ch→K (.slice a n c) (ch::cs)):=⟨fun h=>f33 (by
 unfold s33
 exact c101t (f:=fun d=>d.out.peek.size) fun a n c ch r=>go (h a n c ch r))⟩
end
section
variable {cs:St} {K:Value→SP} {a:Option Addr} {n c:Nat} {l:List Int}
instance c180 {q:Nat} {x:EvM} {i:Int} [r:RdB cs q 101 (evCells x)]:Go1 (fn 180 [.int .i64 i,.pointer (some (ad q 0))] K cs) (K (.bool (i == x.id)) cs):=⟨fun h=>f180 (by unfold s180;exact go h)⟩
instance c227r [r:Rw 3 1 cs a n c encI64 l] {v:Int}:Go1 (fn 227 [.slice a n c,.int .i64 v] K cs) (n≤4000000000000∧(v∈l→∀i:Nat,K (.int .i64 i) cs)∧(v∉l→K (.int .i64 (-1)) cs)):=⟨fun⟨hn,h1,h2⟩=>up0 (f227 (by
 unfold s227
 have hl:=r.h.len
 refine lp (fun i:Nat=>[.int .i64 i]) (fun _=>cs) (fun i=>i≤n∧v∉l.take i) (fun i=>n-i) 0 rfl (Imp.refl _) ⟨Nat.zero_le _,by simp⟩ ?_
 rintro i ⟨i1,i2⟩
 refine go ?_
 simp only [decide_eq_true_eq,decide_eq_false_iff_not,beq_iff_eq,beq_eq_false_iff_ne,Int.toNat_natCast,id]
 refine⟨fun c0=>⟨by omega,fun y hy=>⟨fun c1=> ?_,fun c1=> ?_⟩⟩,fun c0=> ?_⟩
 ·exact⟨cs,Imp.refl _,h1 (c1▸List.mem_of_getElem? hy) i⟩
 ·refine⟨i+1,by rw [w64_succ (by omega)],Imp.refl _,⟨by omega,?_⟩,by omega⟩
  have hil:=lt_of_get hy
  rw [List.take_succ_eq_append_getElem hil,List.mem_append]
  rw [List.getElem?_eq_getElem hil]at hy
  rw [Option.some.inj hy]
  rintro(hm | hm)
  ·exact i2 hm
  ·simp at hm;exact c1 hm
 ·have e:i=n:=by omega
  subst e
  rw [hl,List.take_length]at i2
  exact⟨cs,Imp.refl _,h2 i2⟩))⟩
instance c270 [r:Rw 3 1 cs a n c encI64 l] {v:Int}:Go1 (fn 270 [.slice a n c,.int .i64 v] K cs) (n≤4000000000000∧K (.bool (decide (v∈l))) cs):=⟨fun⟨hn,h⟩=>f270 (by
 unfold s270
 refine go ⟨hn,fun hm i=> ?_,fun hm=> ?_⟩
 ·rw [decide_eq_true hm]at h
  rw [decide_eq_true (by omega)];exact h
 ·rw [decide_eq_false hm]at h;exact h)⟩
theorem zero3:zeroT 3=some (.int .i64 0):=by kernel_rfl
theorem slc34:∃inf,Tryz.prog.underlying 34=some (.slice 3)∧Tryz.prog.info? 3=some inf∧inf.zero=some (.int .i64 0):=by
 obtain⟨inf,z,hu,hinf,hsz,hby,hz,hzs,h0⟩:=sliceT_spec (t:=34) (e:=3) (sz:=1) (bytes:=8) (by kernel_rfl)
 have:=zeroT_of hinf hz
 rw [zero3]at this
 exact⟨inf,hu,hinf,by rw [hz,←this]⟩
theorem zcells (k:Nat):(Builtin.zeroCells (Value.int .i64 0).cells k).toList=(List.replicate k (0:Int)).flatMap encI64.f:=by
 have e:∀k,(List.replicate k (0:Int)).flatMap encI64.f=List.replicate k (.int .i64 0):=fun k=>by
  induction k with
  | zero=>rfl
  | succ k ih=>rw [List.replicate_succ,List.flatMap_cons,ih];rfl
 rw [e]
 unfold Builtin.zeroCells
 show((Array.range (k*1)).map fun i=>(#[Value.int .i64 0]:Array Value)[i % 1]!).toList=_
 apply List.ext_getElem
 ·simp
 ·intro i h1 h2
  simp [Nat.mod_one]
theorem zcells_inv (k:Nat):(List.replicate k (0:Int)).flatMap encI64.f=(Builtin.zeroCells (Value.int .i64 0).cells k).toList:=(zcells k).symm
theorem clr34 {X:SP} {ch:Chunk} {k:Nat} {sl:Value} (r:Row 3 1 a n c encI64 l ch) (hk:k≤n) (hs:sl= .slice (if c=k then a else a.map (·.add (k*1))) (n-k) (c-k)) (h:∀ch',Row 3 1 a n c encI64 (l.take k++List.replicate (n-k) 0) ch'→X (ch'::cs)):
  sm (Builtin.clear_ ⟨[34]⟩ 0 ⟨[sl]⟩) (fun v=>unV v fun _=>X) (ch::cs):=by
 subst hs
 obtain⟨inf,hu,hinf,hz⟩:=slc34
 have hlen:=r.len
 have hrun:∀w,(zeroValue 3).run Tryz.prog w= .ok (.int .i64 0) w:=fun w=>run_zero (zeroT_of hinf hz)
 by_cases h0:n-k=0
 ·refine⟨fun E w hw=>⟨.tuple #[],w,ch::cs,?_,hw,_,rfl,?_⟩⟩
  ·rw [h0]
   cases(if c=k then a else a.map (·.add (k*1))) <;>simp [Builtin.clear_,run_under hu]
  ·refine h ch ?_
   rw [h0,List.replicate_zero,List.append_nil,List.take_of_length_le (by omega)]
   exact r
 ·rcases r.h.inv with ⟨h1,h2,_⟩ | ⟨b,cap,pre,tail,h1,h2,h3,h4,h5,h6⟩
  ·omega
  ·cases h1
   rw [if_neg (by omega)]
   obtain⟨d,hd⟩:∃d,n-k=d+1:=⟨n-k-1,by omega⟩
   have e1:pre++l.flatMap encI64.f++tail=(pre++(l.take k).flatMap encI64.f)++((l.drop k).flatMap encI64.f++tail):=by
    have:l.flatMap encI64.f=(l.take k).flatMap encI64.f++(l.drop k).flatMap encI64.f:=by rw [←List.flatMap_append,List.take_append_drop]
    rw [this];simp
   have e2:(pre++(l.take k).flatMap encI64.f).length=pre.length+k*1:=by rw [List.length_append,encI64.flat_len,List.length_take];congr 2;omega
   refine⟨fun E w hw=> ?_⟩
   obtain⟨w',r1,r2⟩:=run_storeN (b:=b) (off:=pre.length+k*1) (T:=3) (E:=E) ((List.replicate (n-k) (0:Int)).flatMap encI64.f) 0 0 (ch::cs) _ w (by rw [h2];rfl) (fun v hv=>by
    obtain⟨y,_,hy⟩:=List.mem_flatMap.1 hv
    simp at hy;subst hy;rfl) (by
    rw [encI64.flat_len,List.length_replicate,Nat.add_zero]
    simp only [List.length_append];rw [h3];omega) hw
   refine⟨.tuple #[],w',_,?_,r2,_,rfl,?_⟩
   ·rw [zcells_inv,Nat.mul_one]at r1
    rw [hd]at r1 ⊢
    simp only [Option.map,add_ad]
    simp [Builtin.clear_,run_under hu,hrun,Result.andThen,r1]
   ·rw [Nat.add_zero,e1,←e2,lay_app _ _ _ _ (by rw [encI64.flat_len,encI64.flat_len,List.length_replicate,List.length_drop];congr 1;omega)]
    refine h _ ⟨?_⟩
    have e3:(pre++(l.take k).flatMap encI64.f)++((List.replicate (n-k) (0:Int)).flatMap encI64.f++tail)=pre++(l.take k++List.replicate (n-k) 0).flatMap encI64.f++tail:=by rw [List.flatMap_append];simp
    rw [e3]
    have e4:((l.take k++List.replicate (n-k) (0:Int)).flatMap encI64.f).length=n*1:=by rw [encI64.flat_len,List.length_append,List.length_take,List.length_replicate];congr 1;omega
    exact Sl.mk b n c pre _ tail e4 (by rw [e4];rw [h3]at h4;exact h4) h5 h6
structure Hold (P:Prop):Prop where
 h:P
instance (priority:=6000) clrTail {X:SP} {ch:Chunk} {lo:Int} [r:Row 3 1 a n c encI64 l ch]:
  Go1 (qy (Instr.sliceAt 34 (.slice a n c) (some (.int .i64 lo)) none none) (fun v=>unL v fun a' n' c'=>sm (Builtin.clear_ ⟨[34]⟩ 0 ⟨[.slice a' n' c']⟩) fun v=>unV v fun _=>X) (ch::cs))
   ((0≤lo∧lo≤n)∧∀ch',Row 3 1 a n c encI64 (l.take lo.toNat++List.replicate (n-lo.toNat) 0) ch'→Hold (X (ch'::cs))):=⟨fun⟨h1,h⟩=>by
 have hc:=r.cap
 refine slCutAny (lo:=some (.int .i64 lo)) (hi:=none) (x:=lo.toNat) (y:=n) (sz:=1) rfl ⟨.i64,by congr 1;omega⟩ (by omega) (by omega) ?_ (by kernel_rfl)
 exact⟨_,_,_,rfl,clr34 r (by omega) rfl fun ch' r'=>(h ch' r').h⟩⟩
theorem c273t {q:Nat} {x:EvM} {fv:Value} (hfv:fv= .func (.func 180) ⟨[]⟩ ⟨[.pointer (some (ad q 0))]⟩) (r:Rw 3 1 cs a n c encI64 l) (rq:RdB cs q 101 (evCells x)) (hn:n≤4000000000000)
  (h1:x.id∉l→K (.int .i64 (-1)) cs) (h2:∀i:Nat,x.id∉l.take i→l[i]? =some x.id→K (.int .i64 i) cs):fn 273 [.slice a n c,fv] K cs:=up0 (f273 (by
 subst hfv
 unfold s273
 have hl:=r.h.len
 refine lp (fun i:Nat=>[.int .i64 i]) (fun _=>cs) (fun i=>i≤n∧x.id∉l.take i) (fun i=>n-i) 0 rfl (Imp.refl _) ⟨Nat.zero_le _,by simp⟩ ?_
 rintro i ⟨i1,i2⟩
 refine go ?_
 simp only [decide_eq_true_eq,decide_eq_false_iff_not,beq_iff_eq,beq_eq_false_iff_ne,Int.toNat_natCast,id,List.cons_append,List.nil_append]
 refine⟨fun c0=>⟨by omega,fun y hy=> ?_⟩,fun c0=> ?_⟩
 ·refine go ⟨fun c1=> ?_,fun c1=> ?_⟩
  ·have c1':y=x.id:=by simpa using c1
   subst c1'
   exact⟨cs,Imp.refl _,h2 i i2 hy⟩
  ·refine⟨i+1,by rw [w64_succ (by omega)],Imp.refl _,⟨by omega,?_⟩,by omega⟩
   have hil:=lt_of_get hy
   rw [List.take_succ_eq_append_getElem hil,List.mem_append]
   rw [List.getElem?_eq_getElem hil]at hy
   rw [Option.some.inj hy]
   rintro(hm | hm)
   ·exact i2 hm
   ·simp at hm;rw [hm]at c1;simp at c1
 ·have e:i=n:=by omega
  subst e
  rw [hl,List.take_length]at i2
  exact⟨cs,Imp.refl _,h1 i2⟩))
theorem c182t {q:Nat} {x:EvM} {ch:Chunk} (r:Row 3 1 a n c encI64 l ch) (rq:RdB cs q 101 (evCells x)) (hn:n≤4000000000000)
  (h:∀n' c' ch',Row 3 1 a n' c' encI64 (l.filter fun i=>i≠x.id) ch'→K (.slice a n' c') (ch'::cs)):fn 182 [.slice a n c,.func (.func 180) ⟨[]⟩ ⟨[.pointer (some (ad q 0))]⟩] K (ch::cs):=up0 (f182 (by
 unfold s182
 have hl:=r.len
 have hc:=r.cap
 have rq1:∀ch',RdB (ch'::cs) q 101 (evCells x):=fun ch'=>inferInstance
 refine c273t (x:=x) rfl inferInstance (rq1 _) hn (fun hm=> ?_) (fun m hm hg=> ?_)
 ·have e:l.filter (fun i=>i≠x.id)=l:=List.filter_eq_self.2 fun y hy=>by simp;rintro rfl;exact hm hy
  rw [e]at h
  refine go ⟨fun _=>fin (h _ _ _ r),fun c0=>absurd c0 (by decide)⟩
 ·have hml:=lt_of_get hg
  refine go ⟨fun c0=>absurd (beq_iff_eq.1 c0) (by omega),fun _=> ?_⟩
  have e0:(l.take m).filter (fun i=>i≠x.id)=l.take m:=List.filter_eq_self.2 fun y hy=>by simp;rintro rfl;exact hm hy
  rw [w64_succ (by omega)]
  refine lp (fun y:Nat×Nat×List Int×Chunk=>[.int .i64 y.1,.int .i64 y.2.1]) (fun y=>y.2.2.2::cs)
   (fun y=>y.2.1≤n∧y.1<y.2.1∧Row 3 1 a n c encI64 y.2.2.1 y.2.2.2∧y.2.2.1.take y.1=(l.take y.2.1).filter (fun i=>i≠x.id)∧y.1=((l.take y.2.1).filter (fun i=>i≠x.id)).length∧y.2.2.1.drop y.2.1=l.drop y.2.1) (fun y=>n-y.2.1)
   (m,m+1,l,ch) rfl (Imp.refl _) ⟨by simp only;omega,by simp only;omega,r,?_,?_,rfl⟩ ?_
  ·simp only
   rw [List.take_succ_eq_append_getElem hml,List.filter_append,e0]
   rw [List.getElem?_eq_getElem hml]at hg
   rw [Option.some.inj hg];simp
  ·simp only
   rw [List.take_succ_eq_append_getElem hml,List.filter_append,e0]
   rw [List.getElem?_eq_getElem hml]at hg
   rw [Option.some.inj hg];simp;omega
  rintro⟨i,j,R,ch1⟩ ⟨i1,i2,i3,i4,i5,i6⟩
  dsimp only at *
  have hR:=i3.len
  have rq2:=rq1 ch1
  refine go ?_
  simp only [decide_eq_true_eq,decide_eq_false_iff_not,Int.toNat_natCast,id,List.cons_append,List.nil_append]
  refine⟨fun c0=>⟨by omega,fun y hy=> ?_⟩,fun c0=> ?_⟩
  ·have hjl:j<l.length:=by omega
   have hyl:l[j]=y:=by
    have:=congrArg (fun l=>l[0]?) i6
    simp only [List.getElem?_drop,Nat.add_zero]at this
    rw [hy,List.getElem?_eq_getElem hjl]at this
    exact(Option.some.inj this).symm
   have et:l.take (j+1)=l.take j++[y]:=by rw [List.take_succ_eq_append_getElem hjl,hyl]
   have ed:∀R':List Int,R'.drop j=R.drop j→R'.drop (j+1)=l.drop (j+1):=fun R' he=>by
    rw [←List.drop_drop (i:=1) (j:=j),he,i6,List.drop_drop]
   rw [w64_succ (by omega),w64_succ (by omega)]
   refine go ⟨fun c1=> ?_,fun c1=> ?_⟩
   ·have c1':y≠x.id:=by simpa using c1
    refine⟨⟨by omega,by omega⟩,y,rfl,fun ch' r'=>⟨(i+1,j+1,R.set i y,ch'),rfl,Imp.refl _,⟨by simp only;omega,by simp only;omega,by simpa using r',?_,?_,?_⟩,by simp only;omega⟩⟩
    ·simp only
     rw [et,List.filter_append,←i4]
     have:((R.set i y).take (i+1))=R.take i++[y]:=by
      rw [List.take_succ_eq_append_getElem (by rw [List.length_set];omega),List.getElem_set_self,List.take_set_of_le (Nat.le_refl _)]
     rw [this]
     simp [c1']
    ·simp only
     rw [et,List.filter_append,List.length_append,←i5]
     simp [c1']
    ·simp only
     refine ed _ ?_
     rw [List.drop_set_of_lt i2]
   ·have c1':y=x.id:=by simpa using c1
    refine⟨(i,j+1,R,ch1),rfl,Imp.refl _,⟨by simp only;omega,by simp only;omega,i3,?_,?_,ed _ rfl⟩,by simp only;omega⟩
    ·simp only
     rw [et,List.filter_append,i4];simp [c1']
    ·simp only
     rw [et,List.filter_append,List.length_append,←i5];simp [c1']
  ·have e:j=n:=by omega
   subst e
   rw [hl,List.take_length]at i4 i5
   refine⟨⟨by omega,by omega⟩,fun ch' r'=>⟨?_⟩⟩
   clear i3
   refine go ⟨⟨by omega,by omega⟩,fun r2=> ?_⟩
   rw [Int.toNat_natCast]at r2
   have e9:(R.take i++List.replicate (j-i) 0).take i=l.filter (fun i=>i≠x.id):=by
    rw [List.take_append_of_le_length (by rw [List.length_take];omega),List.take_take,Nat.min_self,i4]
   rw [e9]at r2
   exact fin (h _ _ _ r2)))
end
end Go.Proofs.YtbjlfobjngogkaaGreatDoor
namespace Go.Proofs.YtbjlfobjngogkaaGreatDoor
open Go
variable {K:Value→SP} {cs:St}
@[reducible] def s221 (x0:ByteArray) (K:Value→SP):SP:=
 new 45 fun a1=>new 274 fun a3=>sm (Instr.makeMap 423 none)<|fun v4=>unM v4 fun m5=>box 428 (.agg (.mk [.string (bs []),.int .i64 0,.int .i64 0,.slice none 0 0,.map m5,.slice none 0 0,.bool false,.bool false,.bool false,.bool false,.int .i64 0,.slice none 0 0,.int .i64 0,.int .i64 0,.int .i64 0,.int .i64 0,.int .i64 0])) fun a7=>fn 217 [.string x0]<|fun v8=>unL v8 fun a9 n10 c11=>Lp (fun self12 l13=>unI .i64 (l13.headD undef) fun i14=>br (decide (i14<(n10:Int))) (ix 144 (.slice a9 n10 c11) (i14) fun a16=>ldS 9 (a16) fun s18=>fn 314 [.string s18]<|fun v19=>unB v19 fun b20=>br (b20) (self12 [.int .i64 (w64 (i14+1))])<|fn 315 [.string s18]<|fun v21=>unT v21 fun t22=>ex (0<t22.length)<|unL (t22.getD 0 undef) fun a23 n24 c25=>ex (1<t22.length)<|unI .i64 (t22.getD 1 undef) fun i26=>ex (2<t22.length)<|unI .i64 (t22.getD 2 undef) fun i27=>st 3 (a7.add 10) (.int .i64 (w64 (i14+1)))<|st 426 (a7.add 11) (.slice a23 n24 c25)<|st 3 (a7.add 12) (.int .i64 (s18.size:Int))<|st 3 (a7.add 13) (.int .i64 0)<|Jn (fun _=>ldI .i64 57 (a7.add 16) fun n35=>br (n35 != 0) (ldA 274 (a7.add 14) fun a37=>ldI .i64 57 (a7.add 16) fun n39=>st 45 (a1) (.agg (.mk [.string (bs []),.int .i64 0,.int .i64 0,.slice none 0 0]))<|stb (Instr.loadAt 57 (.pointer (some (a7.add 16)))) (.int .i64 n39)<|stb (Instr.loadAt 274 (.pointer (some (a7.add 14)))) (.agg (.mk a37))<|st 274 (a3) (.agg (.mk a37))<|stb (Instr.loadAt 57 (.pointer (some (a7.add 16)))) (.int .i64 n39)<|qy (loadVar 45 a1)<|fun v42=>unA v42 fun a43=>qy (loadVar 274 a3)<|fun v44=>unA v44 fun a45=>K (.tuple (Array.mk [.agg (.mk a43),.agg (.mk a45),.int .i64 n39])))<|self12 [.int .i64 (w64 (i14+1))])<|fun j33=>br (i27 != 0) (fn 316 [.pointer (some a7),.int .i64 i26,.int .i64 i27]<|fun v46=>unT v46 fun _=>j33 [])<|fn 317 [.pointer (some a7)]<|fun v48=>unT v48 fun _=>j33 [])<|ldB 4 (a7.add 6) fun b51=>br (!b51) (st 45 (a1) (.agg (.mk [.string (bs []),.int .i64 0,.int .i64 0,.slice none 0 0]))<|st 274 (a3) (.agg (.mk [.int .i64 1,.int .i64 1]))<|qy (loadVar 45 a1)<|fun v54=>unA v54 fun a55=>qy (loadVar 274 a3)<|fun v56=>unA v56 fun a57=>K (.tuple (Array.mk [.agg (.mk a55),.agg (.mk a57),.int .i64 3])))<|fn 318 [.pointer (some a7)]<|fun v58=>unT v58 fun _=>ldI .i64 57 (a7.add 16) fun n61=>br (n61 != 0) (ldA 274 (a7.add 14) fun a63=>ldI .i64 57 (a7.add 16) fun n65=>st 45 (a1) (.agg (.mk [.string (bs []),.int .i64 0,.int .i64 0,.slice none 0 0]))<|stb (Instr.loadAt 57 (.pointer (some (a7.add 16)))) (.int .i64 n65)<|stb (Instr.loadAt 274 (.pointer (some (a7.add 14)))) (.agg (.mk a63))<|st 274 (a3) (.agg (.mk a63))<|stb (Instr.loadAt 57 (.pointer (some (a7.add 16)))) (.int .i64 n65)<|qy (loadVar 45 a1)<|fun v68=>unA v68 fun a69=>qy (loadVar 274 a3)<|fun v70=>unA v70 fun a71=>K (.tuple (Array.mk [.agg (.mk a69),.agg (.mk a71),.int .i64 n65])))<|ldA 45 (a7.add 0) fun a73=>st 45 (a1) (.agg (.mk a73))<|st 274 (a3) (.agg (.mk [.int .i64 0,.int .i64 0]))<|qy (loadVar 45 a1)<|fun v76=>unA v76 fun a77=>qy (loadVar 274 a3)<|fun v78=>unA v78 fun a79=>K (.tuple (Array.mk [.agg (.mk a77),.agg (.mk a79),.int .i64 0]))) [.int .i64 0]
theorem f221 {x0:ByteArray} (h:s221 x0 K cs):fn 221 [.string x0] K cs:=fO (an:=⟨[(3,[(17,.int .i64)])],[(11,[])]⟩) Tryz.func221 h
@[reducible] def s316 (x0:Addr) (x1:Int) (x2:Int) (K:Value→SP):SP:=
 ldI .i64 57 (x0.add 16) fun n1=>br (n1 == 0) (ldI .i64 3 (x0.add 10) fun n3=>st 274 (x0.add 14) (.agg (.mk [.int .i64 n3,.int .i64 (w64 (x1+1))]))<|st 57 (x0.add 16) (.int .i64 x2)<|K (undef))<|K (undef)
theorem f316 {x0:Addr} {x1 x2:Int} (h:s316 x0 x1 x2 K cs):fn 316 [.pointer (some x0),.int .i64 x1,.int .i64 x2] K cs:=fO (an:=⟨[],[]⟩) Tryz.func316 h
@[reducible] def s317 (x0:Addr) (K:Value→SP):SP:=
 ldL 426 (x0.add 11) fun a1 n2 c3=>ldI .i64 3 (x0.add 13) fun n5=>ix 426 (.slice a1 n2 c3) (n5) fun a7=>ldA 472 (a7) fun a9=>new 472 fun a11=>stb (Instr.loadAt 472 (.pointer (some a7))) (.agg (.mk a9))<|stb (Instr.indexAt 426 (.slice a1 n2 c3) (.int .i64 n5)) (.pointer (some a7))<|stb (Instr.loadAt 3 (.pointer (some (x0.add 13)))) (.int .i64 n5)<|stb (Instr.loadAt 426 (.pointer (some (x0.add 11)))) (.slice a1 n2 c3)<|st 472 (a11) (.agg (.mk a9))<|ldI .i64 3 (x0.add 13) fun n14=>st 3 (x0.add 13) (.int .i64 (w64 (n14+1)))<|ldB 4 (a11.add 1) fun b17=>Jn (fun l18=>unB (l18.headD undef) fun b20=>br (!b20) (fn 316 [.pointer (some x0),.int .i64 0,.int .i64 11]<|fun v21=>unT v21 fun _=>K (undef))<|Jn (fun _=>ldI .i64 57 (x0.add 16) fun n26=>br (n26 == 0) (ldI .i64 3 (x0.add 13) fun n28=>ldL 426 (x0.add 11) fun _ n31 _=>br (decide (n28<(n31:Int))) (ldL 426 (x0.add 11) fun a34 n35 c36=>ldI .i64 3 (x0.add 13) fun n38=>ix 426 (.slice a34 n35 c36) (n38) fun a40=>ldI .i64 3 (a40.add 2) fun n42=>fn 316 [.pointer (some x0),.int .i64 n42,.int .i64 2]<|fun v43=>unT v43 fun _=>K (undef))<|K (undef))<|K (undef))<|fun j24=>ldS 9 (a11.add 0) fun s46=>br (s46.toList == (bs [115,99,114,105,112,116]).toList) (fn 382 [.pointer (some x0)]<|fun v47=>unT v47 fun _=>j24 [])<|br (s46.toList == (bs [111,110]).toList) (ldS 9 (a11.add 0) fun s50=>fn 383 [.pointer (some x0),.string s50]<|fun v51=>unT v51 fun _=>j24 [])<|br (s46.toList == (bs [116,105,109,101,111,117,116]).toList) (ldS 9 (a11.add 0) fun s54=>fn 383 [.pointer (some x0),.string s54]<|fun v55=>unT v55 fun _=>j24 [])<|br (s46.toList == (bs [101,111,102]).toList) (ldS 9 (a11.add 0) fun s58=>fn 383 [.pointer (some x0),.string s58]<|fun v59=>unT v59 fun _=>j24 [])<|ldS 9 (a11.add 0) fun s62=>fn 384 [.pointer (some x0),.string s62]<|fun v63=>unT v63 fun _=>j24 [])<|fun j19=>ldS 9 (a11.add 0) fun s66=>br (s66.toList == (bs [115,99,114,105,112,116]).toList) (br (!b17) (ldB 4 (x0.add 6) fun b68=>j19 [.bool !b68])<|j19 [.bool false])<|br (s66.toList == (bs [111,110]).toList) (br (!b17) (ldB 4 (x0.add 6) fun b70=>j19 [.bool b70])<|j19 [.bool false])<|br (s66.toList == (bs [116,105,109,101,111,117,116]).toList) (br (!b17) (ldB 4 (x0.add 6) fun b72=>j19 [.bool b72])<|j19 [.bool false])<|br (s66.toList == (bs [101,111,102]).toList) (br (!b17) (ldB 4 (x0.add 6) fun b74=>j19 [.bool b74])<|j19 [.bool false])<|br (s66.toList == (bs [115,101,110,100]).toList) (br (!b17) (ldB 4 (x0.add 6) fun b76=>j19 [.bool b76])<|j19 [.bool false])<|br (s66.toList == (bs [101,120,112,101,99,116]).toList) (br (!b17) (ldB 4 (x0.add 6) fun b78=>j19 [.bool b78])<|j19 [.bool false])<|br (s66.toList == (bs [103,111,116,111]).toList) (br (!b17) (ldB 4 (x0.add 6) fun b80=>j19 [.bool b80])<|j19 [.bool false])<|br (s66.toList == (bs [112,97,117,115,101]).toList) (br (!b17) (ldB 4 (x0.add 6) fun b82=>j19 [.bool b82])<|j19 [.bool false])<|br (s66.toList == (bs [100,111,110,101]).toList) (br (!b17) (ldB 4 (x0.add 6) fun b84=>j19 [.bool b84])<|j19 [.bool false])<|br (s66.toList == (bs [102,97,105,108]).toList) (br (!b17) (ldB 4 (x0.add 6) fun b86=>j19 [.bool b86])<|j19 [.bool false])<|br (s66.toList == (bs [108,97,98,101,108]).toList) (br (!b17) (ldB 4 (x0.add 6) fun b88=>j19 [.bool b88])<|j19 [.bool false])<|j19 [.bool false]
theorem f317 {x0:Addr} (h:s317 x0 K cs):fn 317 [.pointer (some x0)] K cs:=fO (an:=⟨[],[(18,[(3,.bool)]),(28,[])]⟩) Tryz.func317 h
@[reducible] def s318 (x0:Addr) (K:Value→SP):SP:=
 ldL 424 (x0.add 5) fun a1 n2 c3=>Lp (fun self4 l5=>unI .i64 (l5.headD undef) fun i6=>br (decide (i6<(n2:Int))) (ix 424 (.slice a1 n2 c3) (i6) fun a8=>ldA 477 (a8) fun a10=>new 477 fun a12=>st 477 (a12) (.agg (.mk a10))<|ldM 423 (x0.add 4) fun m15=>ldS 9 (a12.add 0) fun s17=>qy (Instr.lookup 423 (.map m15) (.string s17) true)<|fun v18=>unT v18 fun t19=>ex (0<t19.length)<|unI .i64 (t19.getD 0 undef) fun i20=>ex (1<t19.length)<|unB (t19.getD 1 undef) fun b21=>br (!b21) (ldI .i64 3 ((a12.add 1).add 0) fun n23=>st 3 (x0.add 10) (.int .i64 n23)<|ldI .i64 3 ((a12.add 1).add 1) fun n26=>fn 316 [.pointer (some x0),.int .i64 (w64 (n26-1)),.int .i64 13]<|fun v27=>unT v27 fun _=>K (undef))<|ldL 43 ((x0.add 0).add 3) fun a30 n31 c32=>ldI .i64 3 (a12.add 3) fun n34=>ix 43 (.slice a30 n31 c32) (n34) fun a36=>ldI .i64 3 (a12.add 4) fun n38=>br (n38 == -1) (st 3 (a36.add 3) (.int .i64 i20)<|self4 [.int .i64 (w64 (i6+1))])<|br (n38 == -2) (st 3 (a36.add 5) (.int .i64 i20)<|self4 [.int .i64 (w64 (i6+1))])<|br (n38 == -3) (st 3 (a36.add 6) (.int .i64 i20)<|self4 [.int .i64 (w64 (i6+1))])<|ldL 95 (a36.add 4) fun a43 n44 c45=>ldI .i64 3 (a12.add 4) fun n47=>ix 95 (.slice a43 n44 c45) (n47) fun a49=>st 3 (a49.add 1) (.int .i64 i20)<|self4 [.int .i64 (w64 (i6+1))])<|K (undef)) [.int .i64 0]
theorem f318 {x0:Addr} (h:s318 x0 K cs):fn 318 [.pointer (some x0)] K cs:=fO (an:=⟨[(1,[(12,.int .i64)])],[]⟩) Tryz.func318 h
@[reducible] def s382 (x0:Addr) (K:Value→SP):SP:=
 st 4 (x0.add 6) (.bool true)<|fn 406 [.pointer (some x0)]<|fun v1=>unA v1 fun a2=>qy (Instr.field 472 (.agg (.mk a2)) 0)<|fun v3=>unS v3 fun s4=>st 9 ((x0.add 0).add 0) (.string s4)<|fn 407 [.pointer (some x0),.int .i64 1,.bool true]<|fun v6=>unI .i64 v6 fun n7=>st 2 ((x0.add 0).add 1) (.int .i64 n7)<|fn 408 [.pointer (some x0),.bool false]<|fun v9=>unT v9 fun t10=>ex (0<t10.length)<|unA (t10.getD 0 undef) fun a11=>ex (1<t10.length)<|unB (t10.getD 1 undef) fun b12=>new 472 fun a14=>st 472 (a14) (.agg (.mk a11))<|br (b12) (ldA 472 (a14) fun a17=>fn 409 [.pointer (some x0),.agg (.mk a17),.int .i64 0,.int .i64 1000]<|fun v18=>unI .i64 v18 fun n19=>st 3 ((x0.add 0).add 2) (.int .i64 n19)<|K (undef))<|K (undef)
theorem f382 {x0:Addr} (h:s382 x0 K cs):fn 382 [.pointer (some x0)] K cs:=fO (an:=⟨[],[]⟩) Tryz.func382 h
@[reducible] def s383 (x0:Addr) (x1:ByteArray) (K:Value→SP):SP:=
 ldB 4 (x0.add 7) fun b1=>br (!b1) (fn 316 [.pointer (some x0),.int .i64 0,.int .i64 8]<|fun v2=>unT v2 fun _=>K (undef))<|ldL 43 ((x0.add 0).add 3) fun _ n6 _=>ldL 43 ((x0.add 0).add 3) fun a9 n10 c11=>ix 43 (.slice a9 n10 c11) (w64 ((n6:Int)-1)) fun a13=>Jn (fun l14=>unI .i64 (l14.headD undef) fun i16=>Jn (fun _=>ix 425 (.pointer (some (x0.add 8))) (i16) fun a20=>st 4 (a20) (.bool true)<|fn 411 [.pointer (some x0),.int .i64 (w64 (-2-i16))]<|fun v22=>unT v22 fun _=>K (undef))<|fun j18=>ix 425 (.pointer (some (x0.add 8))) (i16) fun a25=>ldB 4 (a25) fun b27=>br (b27) (fn 316 [.pointer (some x0),.int .i64 0,.int .i64 6]<|fun v28=>unT v28 fun _=>j18 [])<|j18 [])<|fun j15=>br (x1.toList == (bs [111,110]).toList) (ldL 95 (a13.add 4) fun _ n32 _=>br (decide ((n32:Int)≥8)) (fn 316 [.pointer (some x0),.int .i64 0,.int .i64 4]<|fun v34=>unT v34 fun _=>K (undef))<|ldL 95 (a13.add 4) fun a37 n38 c39=>fn 410 [.pointer (some x0)]<|fun v40=>unS v40 fun s41=>stb (Instr.loadAt 95 (.pointer (some (a13.add 4)))) (.slice a37 n38 c39)<|sm (Instr.buildSlice 95 1 (Array.mk [(0,.agg (.mk [.string s41,.int .i64 0]))]))<|fun v42=>unL v42 fun a43 n44 c45=>stb (Instr.loadAt 95 (.pointer (some (a13.add 4)))) (.slice a37 n38 c39)<|sm (Builtin.append_ (Array.mk [95,95]) 95 (Array.mk [.slice a37 n38 c39,.slice a43 n44 c45]))<|fun v46=>unL v46 fun a47 n48 c49=>st 95 (a13.add 4) (.slice a47 n48 c49)<|ldL 95 (a13.add 4) fun _ n53 _=>fn 411 [.pointer (some x0),.int .i64 (w64 ((n53:Int)-1))]<|fun v55=>unT v55 fun _=>K (undef))<|br (x1.toList == (bs [101,111,102]).toList) (j15 [.int .i64 1])<|j15 [.int .i64 0]
theorem f383 {x0:Addr} {x1:ByteArray} (h:s383 x0 x1 K cs):fn 383 [.pointer (some x0),.string x1] K cs:=fO (an:=⟨[],[(13,[(6,.int .i64)]),(15,[])]⟩) Tryz.func383 h
@[reducible] def s384 (x0:Addr) (x1:ByteArray) (K:Value→SP):SP:=
 st 4 (x0.add 7) (.bool false)<|br (x1.toList == (bs [115,101,110,100]).toList) (fn 413 [.pointer (some x0),.agg (.mk [.int .i64 1,.string (bs []),.int .i64 0,.int .i64 0,.slice none 0 0,.int .i64 0,.int .i64 0])]<|fun v1=>unP v1 fun p2=>fn 412 [.pointer (some x0)]<|fun v3=>unS v3 fun s4=>nn (p2) fun a5=>st 9 (a5.add 1) (.string s4)<|K (undef))<|br (x1.toList == (bs [101,120,112,101,99,116]).toList) (fn 413 [.pointer (some x0),.agg (.mk [.int .i64 2,.string (bs []),.int .i64 0,.int .i64 0,.slice none 0 0,.int .i64 (-1),.int .i64 (-1)])]<|fun v7=>unP v7 fun p8=>fn 407 [.pointer (some x0),.int .i64 0,.bool true]<|fun v9=>unI .i64 v9 fun n10=>nn (p8) fun a11=>st 2 (a11.add 2) (.int .i64 n10)<|qy (Instr.build 425 (Array.mk []))<|fun v13=>unA v13 fun a14=>st 4 (x0.add 7) (.bool true)<|st 425 (x0.add 8) (.agg (.mk a14))<|K (undef))<|br (x1.toList == (bs [103,111,116,111]).toList) (fn 413 [.pointer (some x0),.agg (.mk [.int .i64 3,.string (bs []),.int .i64 0,.int .i64 0,.slice none 0 0,.int .i64 0,.int .i64 0])]<|fun v17=>unP v17 fun _=>fn 411 [.pointer (some x0),.int .i64 (-1)]<|fun v19=>unT v19 fun _=>K (undef))<|br (x1.toList == (bs [112,97,117,115,101]).toList) (fn 413 [.pointer (some x0),.agg (.mk [.int .i64 4,.string (bs []),.int .i64 0,.int .i64 0,.slice none 0 0,.int .i64 0,.int .i64 0])]<|fun v21=>unP v21 fun p22=>fn 407 [.pointer (some x0),.int .i64 0,.bool false]<|fun v23=>unI .i64 v23 fun n24=>nn (p22) fun a25=>st 2 (a25.add 2) (.int .i64 n24)<|K (undef))<|br (x1.toList == (bs [100,111,110,101]).toList) (fn 413 [.pointer (some x0),.agg (.mk [.int .i64 5,.string (bs []),.int .i64 0,.int .i64 0,.slice none 0 0,.int .i64 0,.int .i64 0])]<|fun v27=>unP v27 fun _=>K (undef))<|br (x1.toList == (bs [102,97,105,108]).toList) (fn 413 [.pointer (some x0),.agg (.mk [.int .i64 6,.string (bs []),.int .i64 0,.int .i64 0,.slice none 0 0,.int .i64 0,.int .i64 0])]<|fun v29=>unP v29 fun _=>K (undef))<|br (x1.toList == (bs [108,97,98,101,108]).toList) (fn 406 [.pointer (some x0)]<|fun v31=>unA v31 fun a32=>new 472 fun a34=>st 472 (a34) (.agg (.mk a32))<|Jn (fun _=>ldM 423 (x0.add 4) fun m39=>ldS 9 (a34.add 0) fun s41=>ldL 43 ((x0.add 0).add 3) fun _ n44 _=>sm (do Instr.mapUpdate 423 (.map m39) (.string s41) (.int .i64 (n44:Int));pure undef) fun _=>K (undef))<|fun j37=>ldM 423 (x0.add 4) fun m48=>ldS 9 (a34.add 0) fun s50=>qy (Instr.lookup 423 (.map m48) (.string s50) true)<|fun v51=>unT v51 fun t52=>ex (0<t52.length)<|unI .i64 (t52.getD 0 undef) fun _=>ex (1<t52.length)<|unB (t52.getD 1 undef) fun b54=>br (b54) (ldI .i64 3 (a34.add 2) fun n56=>fn 316 [.pointer (some x0),.int .i64 n56,.int .i64 6]<|fun v57=>unT v57 fun _=>j37 [])<|j37 [])<|K (undef)
theorem f384 {x0:Addr} {x1:ByteArray} (h:s384 x0 x1 K cs):fn 384 [.pointer (some x0),.string x1] K cs:=fO (an:=⟨[],[(21,[])]⟩) Tryz.func384 h
@[reducible] def s406 (x0:Addr) (K:Value→SP):SP:=
 new 472 fun a1=>fn 408 [.pointer (some x0),.bool false]<|fun v2=>unT v2 fun t3=>ex (0<t3.length)<|unA (t3.getD 0 undef) fun a4=>ex (1<t3.length)<|unB (t3.getD 1 undef) fun b5=>new 472 fun a7=>st 472 (a7) (.agg (.mk a4))<|br (b5) (ldS 9 (a7.add 0) fun s10=>fn 289 [.string s10]<|fun v11=>unB v11 fun b12=>br (!b12) (ldI .i64 3 (a7.add 2) fun n14=>fn 316 [.pointer (some x0),.int .i64 n14,.int .i64 10]<|fun v15=>unT v15 fun _=>ldA 472 (a7) fun a18=>st 472 (a1) (.agg (.mk a18))<|qy (loadVar 472 a1)<|fun v20=>unA v20 fun a21=>K (.agg (.mk a21)))<|ldA 472 (a7) fun a23=>st 472 (a1) (.agg (.mk a23))<|qy (loadVar 472 a1)<|fun v25=>unA v25 fun a26=>K (.agg (.mk a26)))<|ldA 472 (a7) fun a28=>st 472 (a1) (.agg (.mk a28))<|qy (loadVar 472 a1)<|fun v30=>unA v30 fun a31=>K (.agg (.mk a31))
theorem f406 {x0:Addr} (h:s406 x0 K cs):fn 406 [.pointer (some x0)] K cs:=fO (an:=⟨[],[]⟩) Tryz.func406 h
@[reducible] def s407 (x0:Addr) (x1:Int) (x2:Bool) (K:Value→SP):SP:=
 fn 408 [.pointer (some x0),.bool false]<|fun v0=>unT v0 fun t1=>ex (0<t1.length)<|unA (t1.getD 0 undef) fun a2=>ex (1<t1.length)<|unB (t1.getD 1 undef) fun b3=>new 472 fun a5=>st 472 (a5) (.agg (.mk a2))<|br (!b3) (K (.int .i64 0))<|br (x2) (ldS 9 (a5.add 0) fun s8=>br (s8.toList == (bs [110,101,118,101,114]).toList) (K (.int .i64 9223372036854775807))<|ldA 472 (a5) fun a10=>fn 409 [.pointer (some x0),.agg (.mk a10),.int .i64 x1,.int .i64 1000000000000]<|fun v11=>unI .i64 v11 fun n12=>K (.int .i64 n12))<|ldA 472 (a5) fun a14=>fn 409 [.pointer (some x0),.agg (.mk a14),.int .i64 x1,.int .i64 1000000000000]<|fun v15=>unI .i64 v15 fun n16=>K (.int .i64 n16)
theorem f407 {x0:Addr} {x1:Int} {x2:Bool} (h:s407 x0 x1 x2 K cs):fn 407 [.pointer (some x0),.int .i64 x1,.bool x2] K cs:=fO (an:=⟨[],[]⟩) Tryz.func407 h
@[reducible] def s408 (x0:Addr) (x1:Bool) (K:Value→SP):SP:=
 new 472 fun a1=>ldI .i64 57 (x0.add 16) fun n3=>br (n3 != 0) (st 472 (a1) (.agg (.mk [.string (bs []),.bool false,.int .i64 0]))<|qy (loadVar 472 a1)<|fun v5=>unA v5 fun a6=>K (.tuple (Array.mk [.agg (.mk a6),.bool false])))<|ldI .i64 3 (x0.add 13) fun n8=>ldL 426 (x0.add 11) fun _ n11 _=>br (decide (n8≥(n11:Int))) (ldI .i64 3 (x0.add 12) fun n14=>fn 316 [.pointer (some x0),.int .i64 n14,.int .i64 3]<|fun v15=>unT v15 fun _=>st 472 (a1) (.agg (.mk [.string (bs []),.bool false,.int .i64 0]))<|qy (loadVar 472 a1)<|fun v18=>unA v18 fun a19=>K (.tuple (Array.mk [.agg (.mk a19),.bool false])))<|ldL 426 (x0.add 11) fun a21 n22 c23=>ldI .i64 3 (x0.add 13) fun n25=>ix 426 (.slice a21 n22 c23) (n25) fun a27=>ldA 472 (a27) fun a29=>new 472 fun a31=>stb (Instr.loadAt 472 (.pointer (some a27))) (.agg (.mk a29))<|stb (Instr.indexAt 426 (.slice a21 n22 c23) (.int .i64 n25)) (.pointer (some a27))<|stb (Instr.loadAt 3 (.pointer (some (x0.add 13)))) (.int .i64 n25)<|stb (Instr.loadAt 426 (.pointer (some (x0.add 11)))) (.slice a21 n22 c23)<|st 472 (a31) (.agg (.mk a29))<|ldI .i64 3 (x0.add 13) fun n34=>st 3 (x0.add 13) (.int .i64 (w64 (n34+1)))<|Jn (fun _=>ldA 472 (a31) fun a39=>ldI .i64 57 (x0.add 16) fun n41=>st 472 (a1) (.agg (.mk a39))<|stb (Instr.loadAt 57 (.pointer (some (x0.add 16)))) (.int .i64 n41)<|qy (loadVar 472 a1)<|fun v43=>unA v43 fun a44=>K (.tuple (Array.mk [.agg (.mk a44),.bool (n41 == 0)])))<|fun j37=>ldB 4 (a31.add 1) fun b46=>br (!b46 == x1) (ldI .i64 3 (a31.add 2) fun n48=>fn 316 [.pointer (some x0),.int .i64 n48,.int .i64 2]<|fun v49=>unT v49 fun _=>j37 [])<|j37 []
theorem f408 {x0:Addr} {x1:Bool} (h:s408 x0 x1 K cs):fn 408 [.pointer (some x0),.bool x1] K cs:=fO (an:=⟨[],[(10,[])]⟩) Tryz.func408 h
@[reducible] def s409 (x0:Addr) (x1:List Value) (x2:Int) (x3:Int) (K:Value→SP):SP:=
 box 472 (.agg (.mk x1)) fun a1=>ldS 9 (a1.add 0) fun s3=>fn 427 [.string s3,.int .i64 x3]<|fun v4=>unT v4 fun t5=>ex (0<t5.length)<|unI .i64 (t5.getD 0 undef) fun i6=>ex (1<t5.length)<|unI .i64 (t5.getD 1 undef) fun i7=>Jn (fun l8=>unI .i64 (l8.headD undef) fun i10=>br (i10 != 0) (ldI .i64 3 (a1.add 2) fun n12=>fn 316 [.pointer (some x0),.int .i64 n12,.int .i64 i10]<|fun v13=>unT v13 fun _=>K (.int .i64 i6))<|K (.int .i64 i6))<|fun j9=>br (i7 == 0) (br (decide (i6<x2)) (j9 [.int .i64 12])<|j9 [.int .i64 i7])<|j9 [.int .i64 i7]
theorem f409 {x0:Addr} {x1:List Value} {x2 x3:Int} (h:s409 x0 x1 x2 x3 K cs):fn 409 [.pointer (some x0),.agg (.mk x1),.int .i64 x2,.int .i64 x3] K cs:=fO (an:=⟨[],[(4,[(10,.int .i64)])]⟩) Tryz.func409 h
@[reducible] def s410 (x0:Addr) (K:Value→SP):SP:=
 fn 408 [.pointer (some x0),.bool true]<|fun v0=>unT v0 fun t1=>ex (0<t1.length)<|unA (t1.getD 0 undef) fun a2=>ex (1<t1.length)<|unB (t1.getD 1 undef) fun b3=>new 472 fun a5=>st 472 (a5) (.agg (.mk a2))<|br (!b3) (K (.string (bs [])))<|ldS 9 (a5.add 0) fun s8=>br (decide ((s8.size:Int)>64)) (ldI .i64 3 (a5.add 2) fun n10=>fn 316 [.pointer (some x0),.int .i64 n10,.int .i64 4]<|fun v11=>unT v11 fun _=>K (.string (bs [])))<|ldS 9 (a5.add 0) fun s14=>fn 420 [.string s14]<|fun v15=>unT v15 fun t16=>ex (0<t16.length)<|unI .i64 (t16.getD 0 undef) fun _=>ex (1<t16.length)<|unI .i64 (t16.getD 1 undef) fun i18=>br (i18 != 0) (ldI .i64 3 (a5.add 2) fun n20=>fn 316 [.pointer (some x0),.int .i64 n20,.int .i64 i18]<|fun v21=>unT v21 fun _=>ldS 9 (a5.add 0) fun s24=>K (.string s24))<|ldS 9 (a5.add 0) fun s26=>K (.string s26)
theorem f410 {x0:Addr} (h:s410 x0 K cs):fn 410 [.pointer (some x0)] K cs:=fO (an:=⟨[],[]⟩) Tryz.func410 h
@[reducible] def s411 (x0:Addr) (x1:Int) (K:Value→SP):SP:=
 fn 406 [.pointer (some x0)]<|fun v0=>unA v0 fun a1=>new 472 fun a3=>st 472 (a3) (.agg (.mk a1))<|ldL 424 (x0.add 5) fun a6 n7 c8=>ldS 9 (a3.add 0) fun s10=>ldI .i64 3 (x0.add 10) fun n12=>ldI .i64 3 (a3.add 2) fun n14=>ldL 43 ((x0.add 0).add 3) fun _ n17 _=>qy (Instr.build 477 (Array.mk [(0,.string s10),(1,.agg (.mk [.int .i64 n12,.int .i64 (w64 (n14+1))])),(2,.int .i64 (w64 ((n17:Int)-1))),(3,.int .i64 x1)]))<|fun v19=>unA v19 fun a20=>sm (Instr.buildSlice 424 1 (Array.mk [(0,.agg (.mk a20))]))<|fun v21=>unL v21 fun a22 n23 c24=>stb (Instr.loadAt 424 (.pointer (some (x0.add 5)))) (.slice a6 n7 c8)<|sm (Builtin.append_ (Array.mk [424,424]) 424 (Array.mk [.slice a6 n7 c8,.slice a22 n23 c24]))<|fun v25=>unL v25 fun a26 n27 c28=>st 424 (x0.add 5) (.slice a26 n27 c28)<|K (undef)
theorem f411 {x0:Addr} {x1:Int} (h:s411 x0 x1 K cs):fn 411 [.pointer (some x0),.int .i64 x1] K cs:=fO (an:=⟨[],[]⟩) Tryz.func411 h
@[reducible] def s412 (x0:Addr) (K:Value→SP):SP:=
 fn 408 [.pointer (some x0),.bool true]<|fun v0=>unT v0 fun t1=>ex (0<t1.length)<|unA (t1.getD 0 undef) fun a2=>ex (1<t1.length)<|unB (t1.getD 1 undef) fun b3=>new 472 fun a5=>st 472 (a5) (.agg (.mk a2))<|br (b3) (ldS 9 (a5.add 0) fun s8=>br (s8.toList == (bs []).toList) (ldI .i64 3 (a5.add 2) fun n10=>fn 316 [.pointer (some x0),.int .i64 n10,.int .i64 9]<|fun v11=>unT v11 fun _=>ldS 9 (a5.add 0) fun s14=>K (.string s14))<|br (b3) (ldS 9 (a5.add 0) fun s16=>br (decide ((s16.size:Int)>256)) (ldI .i64 3 (a5.add 2) fun n18=>fn 316 [.pointer (some x0),.int .i64 n18,.int .i64 4]<|fun v19=>unT v19 fun _=>ldS 9 (a5.add 0) fun s22=>K (.string s22))<|ldS 9 (a5.add 0) fun s24=>K (.string s24))<|ldS 9 (a5.add 0) fun s26=>K (.string s26))<|br (b3) (ldS 9 (a5.add 0) fun s28=>br (decide ((s28.size:Int)>256)) (ldI .i64 3 (a5.add 2) fun n30=>fn 316 [.pointer (some x0),.int .i64 n30,.int .i64 4]<|fun v31=>unT v31 fun _=>ldS 9 (a5.add 0) fun s34=>K (.string s34))<|ldS 9 (a5.add 0) fun s36=>K (.string s36))<|ldS 9 (a5.add 0) fun s38=>K (.string s38)
theorem f412 {x0:Addr} (h:s412 x0 K cs):fn 412 [.pointer (some x0)] K cs:=fO (an:=⟨[],[]⟩) Tryz.func412 h
@[reducible] def s413 (x0:Addr) (x1:List Value) (K:Value→SP):SP:=
 box 97 (.agg (.mk x1)) fun a1=>Jn (fun _=>ldL 43 ((x0.add 0).add 3) fun a5 n6 c7=>ldA 97 (a1) fun a9=>sm (Instr.buildSlice 43 1 (Array.mk [(0,.agg (.mk a9))]))<|fun v10=>unL v10 fun a11 n12 c13=>stb (Instr.loadAt 43 (.pointer (some ((x0.add 0).add 3)))) (.slice a5 n6 c7)<|sm (Builtin.append_ (Array.mk [43,43]) 43 (Array.mk [.slice a5 n6 c7,.slice a11 n12 c13]))<|fun v14=>unL v14 fun a15 n16 c17=>st 43 ((x0.add 0).add 3) (.slice a15 n16 c17)<|ldL 43 ((x0.add 0).add 3) fun a20 n21 c22=>ldL 43 ((x0.add 0).add 3) fun _ n25 _=>ix 43 (.slice a20 n21 c22) (w64 ((n25:Int)-1)) fun a28=>K (.pointer (some a28)))<|fun j3=>ldL 43 ((x0.add 0).add 3) fun _ n31 _=>br (decide ((n31:Int)≥200)) (fn 316 [.pointer (some x0),.int .i64 0,.int .i64 4]<|fun v33=>unT v33 fun _=>j3 [])<|j3 []
theorem f413 {x0:Addr} {x1:List Value} (h:s413 x0 x1 K cs):fn 413 [.pointer (some x0),.agg (.mk x1)] K cs:=fO (an:=⟨[],[(3,[])]⟩) Tryz.func413 h
@[reducible] def s83 (x0:ByteArray) (K:Value→SP):SP:=
 br (decide ((x0.size:Int)>40000)) (K (.tuple (Array.mk [.slice none 0 0,.int .i64 4])))<|fn 142 [.string x0]<|fun v0=>unL v0 fun a1 n2 c3=>br (decide ((n2:Int)>64)) (K (.tuple (Array.mk [.slice none 0 0,.int .i64 4])))<|Lp (fun self4 l5=>unL (l5.headD undef) fun a6 n7 c8=>unI .i64 (l5.tail.headD undef) fun i9=>br (decide (i9<(n2:Int))) (ix 269 (.slice a1 n2 c3) (i9) fun a11=>ldA 272 (a11) fun a13=>new 272 fun a15=>st 272 (a15) (.agg (.mk a13))<|ldA 272 (a15) fun a18=>fn 143 [.agg (.mk a18),.slice a6 n7 c8]<|fun v19=>unA v19 fun a20=>sm (Instr.buildSlice 176 1 (Array.mk [(0,.agg (.mk a20))]))<|fun v21=>unL v21 fun a22 n23 c24=>sm (Builtin.append_ (Array.mk [176,176]) 176 (Array.mk [.slice a6 n7 c8,.slice a22 n23 c24]))<|fun v25=>unL v25 fun a26 n27 c28=>self4 [.slice a26 n27 c28,.int .i64 (w64 (i9+1))])<|K (.tuple (Array.mk [.slice a6 n7 c8,.int .i64 0]))) [.slice none 0 0,.int .i64 0]
theorem f83 {x0:ByteArray} (h:s83 x0 K cs):fn 83 [.string x0] K cs:=fO (an:=⟨[(8,[(4,.sl),(18,.int .i64)])],[]⟩) Tryz.func83 h
@[reducible] def s142 (x0:ByteArray) (K:Value→SP):SP:=
 new 272 fun a1=>st 272 (a1) (.agg (.mk [.int .i64 1,.slice none 0 0]))<|fn 217 [.string x0]<|fun v3=>unL v3 fun a4 n5 c6=>Lp (fun self7 l8=>unL (l8.headD undef) fun a9 n10 c11=>unI .i64 (l8.tail.headD undef) fun i12=>br (decide (i12<(n5:Int))) (ix 144 (.slice a4 n5 c6) (i12) fun a14=>ldS 9 (a14) fun s16=>Jn (fun l17=>unL (l17.headD undef) fun a19 n20 c21=>ldL 144 (a1.add 1) fun a23 n24 c25=>sm (Instr.buildSlice 144 1 (Array.mk [(0,.string s16)]))<|fun v26=>unL v26 fun a27 n28 c29=>sm (Builtin.append_ (Array.mk [144,144]) 144 (Array.mk [.slice a23 n24 c25,.slice a27 n28 c29]))<|fun v30=>unL v30 fun a31 n32 c33=>st 144 (a1.add 1) (.slice a31 n32 c33)<|self7 [.slice a19 n20 c21,.int .i64 (w64 (i12+1))])<|fun j18=>fn 218 [.string s16]<|fun v35=>unB v35 fun b36=>br (b36) (ldA 272 (a1) fun a38=>sm (Instr.buildSlice 269 1 (Array.mk [(0,.agg (.mk a38))]))<|fun v39=>unL v39 fun a40 n41 c42=>sm (Builtin.append_ (Array.mk [269,269]) 269 (Array.mk [.slice a9 n10 c11,.slice a40 n41 c42]))<|fun v43=>unL v43 fun a44 n45 c46=>st 272 (a1) (.agg (.mk [.int .i64 (w64 (i12+1)),.slice none 0 0]))<|j18 [.slice a44 n45 c46])<|j18 [.slice a9 n10 c11])<|ldA 272 (a1) fun a49=>sm (Instr.buildSlice 269 1 (Array.mk [(0,.agg (.mk a49))]))<|fun v50=>unL v50 fun a51 n52 c53=>sm (Builtin.append_ (Array.mk [269,269]) 269 (Array.mk [.slice a9 n10 c11,.slice a51 n52 c53]))<|fun v54=>unL v54 fun a55 n56 c57=>ix 269 (.slice a55 n56 c57) (0) fun a59=>ldL 144 (a59.add 1) fun a61 n62 c63=>fn 219 [.slice a61 n62 c63,.func (Fn.func 220) (Array.mk []) (Array.mk [])]<|fun v64=>unB v64 fun b65=>br (!b65) (qy (Instr.sliceAt 269 (.slice a55 n56 c57) (some (.int .i64 1)) none none)<|fun v66=>unL v66 fun a67 n68 c69=>K (.slice a67 n68 c69))<|K (.slice a55 n56 c57)) [.slice none 0 0,.int .i64 0]
theorem f142 {x0:ByteArray} (h:s142 x0 K cs):fn 142 [.string x0] K cs:=fO (an:=⟨[(4,[(3,.sl),(11,.int .i64)])],[(9,[(3,.sl)])]⟩) Tryz.func142 h
@[reducible] def s143 (x0:List Value) (x1:Option Addr) (y1:Nat) (z1:Nat) (K:Value→SP):SP:=
 box 272 (.agg (.mk x0)) fun a1=>new 276 fun a3=>ldI .i64 3 (a1.add 0) fun n5=>new 276 fun a7=>st 276 (a7) (.agg (.mk [.string (bs []),.int .i64 0,.int .i64 0,.slice none 0 0,.int .i64 n5,.int .i64 0,.int .i64 0,.int .i64 0]))<|ldL 144 (a1.add 1) fun a10 n11 c12=>fn 222 [.slice a10 n11 c12,.string (bs [10])]<|fun v13=>unS v13 fun s14=>fn 221 [.string s14]<|fun v15=>unT v15 fun t16=>ex (0<t16.length)<|unA (t16.getD 0 undef) fun a17=>ex (1<t16.length)<|unA (t16.getD 1 undef) fun a18=>ex (2<t16.length)<|unI .i64 (t16.getD 2 undef) fun i19=>new 45 fun a21=>new 274 fun a23=>st 45 (a21) (.agg (.mk a17))<|st 274 (a23) (.agg (.mk a18))<|br (i19 != 0) (ldI .i64 3 (a23.add 0) fun n27=>ldI .i64 3 (a1.add 0) fun n29=>ldI .i64 3 (a23.add 1) fun n31=>st 274 (a7.add 5) (.agg (.mk [.int .i64 (w64 (w64 (n27+n29)-1)),.int .i64 n31]))<|st 57 (a7.add 7) (.int .i64 i19)<|ldA 276 (a7) fun a35=>st 276 (a3) (.agg (.mk a35))<|qy (loadVar 276 a3)<|fun v37=>unA v37 fun a38=>K (.agg (.mk a38)))<|ldS 9 (a21.add 0) fun s40=>fn 223 [.slice x1 y1 z1,.string s40]<|fun v41=>unT v41 fun t42=>ex (0<t42.length)<|unI .i64 (t42.getD 0 undef) fun _=>ex (1<t42.length)<|unB (t42.getD 1 undef) fun b44=>br (b44) (ldA 272 (a1) fun a46=>fn 224 [.agg (.mk a46)]<|fun v47=>unI .i64 v47 fun n48=>st 274 (a7.add 5) (.agg (.mk [.int .i64 n48,.int .i64 8]))<|st 57 (a7.add 7) (.int .i64 6)<|ldA 276 (a7) fun a52=>st 276 (a3) (.agg (.mk a52))<|qy (loadVar 276 a3)<|fun v54=>unA v54 fun a55=>K (.agg (.mk a55)))<|ldA 45 (a21) fun a57=>st 45 (a7.add 0) (.agg (.mk a57))<|ldA 276 (a7) fun a60=>st 276 (a3) (.agg (.mk a60))<|qy (loadVar 276 a3)<|fun v62=>unA v62 fun a63=>K (.agg (.mk a63))
theorem f143 {x0:List Value} {x1:Option Addr} {y1 z1:Nat} (h:s143 x0 x1 y1 z1 K cs):fn 143 [.agg (.mk x0),.slice x1 y1 z1] K cs:=fO (an:=⟨[],[]⟩) Tryz.func143 h
@[reducible] def s218 (x0:ByteArray) (K:Value→SP):SP:=
 br (x0.toList == (bs [115,99,114,105,112,116]).toList) (K (.bool true))<|fn 52 [.string x0,.string (bs [115,99,114,105,112,116,32])]<|fun v0=>unB v0 fun b1=>K (.bool b1)
theorem f218 {x0:ByteArray} (h:s218 x0 K cs):fn 218 [.string x0] K cs:=fO (an:=⟨[],[]⟩) Tryz.func218 h
@[reducible] def s220 (x0:ByteArray) (K:Value→SP):SP:=
 fn 314 [.string x0]<|fun v0=>unB v0 fun b1=>K (.bool !b1)
theorem f220 {x0:ByteArray} (h:s220 x0 K cs):fn 220 [.string x0] K cs:=fO (an:=⟨[],[]⟩) Tryz.func220 h
@[reducible] def s223 (x0:Option Addr) (y0:Nat) (z0:Nat) (x1:ByteArray) (K:Value→SP):SP:=
 box 9 (.string x1) fun a1=>fn 320 [.slice x0 y0 z0,.func (Fn.func 321) (Array.mk []) (Array.mk [.pointer (some a1)])]<|fun v2=>unI .i64 v2 fun n3=>K (.tuple (Array.mk [.int .i64 (if 0>n3 then 0 else n3),.bool (decide (n3≥0))]))
theorem f223 {x0:Option Addr} {y0 z0:Nat} {x1:ByteArray} (h:s223 x0 y0 z0 x1 K cs):fn 223 [.slice x0 y0 z0,.string x1] K cs:=fO (an:=⟨[],[]⟩) Tryz.func223 h
@[reducible] def s224 (x0:List Value) (K:Value→SP):SP:=
 box 272 (.agg (.mk x0)) fun a1=>ldI .i64 3 (a1.add 0) fun n3=>ldL 144 (a1.add 1) fun a5 n6 c7=>fn 313 [.slice a5 n6 c7,.func (Fn.func 220) (Array.mk []) (Array.mk [])]<|fun v8=>unI .i64 v8 fun n9=>stb (Instr.loadAt 3 (.pointer (some (a1.add 0)))) (.int .i64 n3)<|K (.int .i64 (w64 (n3+n9)))
theorem f224 {x0:List Value} (h:s224 x0 K cs):fn 224 [.agg (.mk x0)] K cs:=fO (an:=⟨[],[]⟩) Tryz.func224 h
@[reducible] def s321 (x0:List Value) (x1:Addr) (K:Value→SP):SP:=
 box 276 (.agg (.mk x0)) fun a1=>ldI .i64 57 (a1.add 7) fun n3=>br (n3 == 0) (ldS 9 ((a1.add 0).add 0) fun s5=>ldS 9 (x1) fun s7=>K (.bool (s5.toList == s7.toList)))<|K (.bool false)
theorem f321 {x0:List Value} {x1:Addr} (h:s321 x0 x1 K cs):fn 321 [.agg (.mk x0),.pointer (some x1)] K cs:=fO (an:=⟨[],[]⟩) Tryz.func321 h
@[reducible] def s11 (x0:Option Addr) (y0:Nat) (z0:Nat) (K:Value→SP):SP:=
 fn 40 [.slice x0 y0 z0]<|fun v0=>unL v0 fun a1 n2 c3=>K (.slice a1 n2 c3)
theorem f11 {x0:Option Addr} {y0 z0:Nat} (h:s11 x0 y0 z0 K cs):fn 11 [.slice x0 y0 z0] K cs:=fO (an:=⟨[],[]⟩) Tryz.func11 h
@[reducible] def s12 (x0:Option Addr) (y0:Nat) (z0:Nat) (x1:Int) (K:Value→SP):SP:=
 new 39 fun a1=>fn 41 [.slice x0 y0 z0,.int .i64 x1]<|fun v2=>unT v2 fun t3=>ex (0<t3.length)<|unA (t3.getD 0 undef) fun a4=>ex (1<t3.length)<|unL (t3.getD 1 undef) fun _ _ _=>ex (2<t3.length)<|unB (t3.getD 2 undef) fun b8=>new 39 fun a10=>st 39 (a10) (.agg (.mk a4))<|ldA 39 (a10) fun a13=>st 39 (a1) (.agg (.mk a13))<|qy (loadVar 39 a1)<|fun v15=>unA v15 fun a16=>K (.tuple (Array.mk [.agg (.mk a16),.bool b8]))
theorem f12 {x0:Option Addr} {y0 z0:Nat} {x1:Int} (h:s12 x0 y0 z0 x1 K cs):fn 12 [.slice x0 y0 z0,.int .i64 x1] K cs:=fO (an:=⟨[],[]⟩) Tryz.func12 h
@[reducible] def s40 (x0:Option Addr) (y0:Nat) (z0:Nat) (K:Value→SP):SP:=
 Lp (fun self0 l1=>unL (l1.headD undef) fun a2 n3 c4=>unI .i64 (l1.tail.headD undef) fun i5=>br (decide (i5<(y0:Int))) (ix 30 (.slice x0 y0 z0) (i5) fun a7=>ldA 101 (a7) fun a9=>new 101 fun a11=>st 101 (a11) (.agg (.mk a9))<|ldI .i64 3 (a11.add 0) fun n14=>br (n14 == 2) (ldI .i64 3 (a11.add 1) fun n16=>sm (Instr.buildSlice 34 1 (Array.mk [(0,.int .i64 n16)]))<|fun v17=>unL v17 fun a18 n19 c20=>sm (Builtin.append_ (Array.mk [34,34]) 34 (Array.mk [.slice a2 n3 c4,.slice a18 n19 c20]))<|fun v21=>unL v21 fun a22 n23 c24=>self0 [.slice a22 n23 c24,.int .i64 (w64 (i5+1))])<|self0 [.slice a2 n3 c4,.int .i64 (w64 (i5+1))])<|fn 108 [.slice a2 n3 c4]<|fun v25=>unT v25 fun _=>fn 109 [.slice a2 n3 c4]<|fun v27=>unL v27 fun a28 n29 c30=>K (.slice a28 n29 c30)) [.slice none 0 0,.int .i64 0]
theorem f40 {x0:Option Addr} {y0 z0:Nat} (h:s40 x0 y0 z0 K cs):fn 40 [.slice x0 y0 z0] K cs:=fO (an:=⟨[(3,[(3,.sl),(8,.int .i64)])],[]⟩) Tryz.func40 h
@[reducible] def s41 (x0:Option Addr) (y0:Nat) (z0:Nat) (x1:Int) (K:Value→SP):SP:=
 box 3 (.int .i64 x1) fun a1=>new 39 fun a3=>ldI .i64 3 (a1) fun n5=>new 39 fun a7=>st 39 (a7) (.agg (.mk [.int .i64 n5,.int .i64 0,.int .i64 0,.slice none 0 0,.slice none 0 0,.string (bs []),.string (bs []),.bool false,.int .i64 0]))<|new 91 fun a10=>fn 110 [.slice x0 y0 z0,.func (Fn.func 111) (Array.mk []) (Array.mk [.pointer (some a1)])]<|fun v11=>unI .i64 v11 fun n12=>br (decide (n12<0)) (st 39 (a3) (.agg (.mk [.int .i64 0,.int .i64 0,.int .i64 0,.slice none 0 0,.slice none 0 0,.string (bs []),.string (bs []),.bool false,.int .i64 0]))<|qy (loadVar 39 a3)<|fun v14=>unA v14 fun a15=>K (.tuple (Array.mk [.agg (.mk a15),.slice none 0 0,.bool false])))<|qy (Instr.sliceAt 30 (.slice x0 y0 z0) none (some (.int .i64 n12)) none)<|fun v16=>unL v16 fun a17 n18 c19=>Lp (fun self20 l21=>unI .i64 (l21.headD undef) fun i22=>br (decide (i22<(n18:Int))) (ix 30 (.slice a17 n18 c19) (i22) fun a24=>ldA 101 (a24) fun a26=>new 101 fun a28=>st 101 (a28) (.agg (.mk a26))<|ldI .i64 3 (a28.add 0) fun n31=>br (n31 == 1) (ldI .i64 2 (a28.add 3) fun n33=>st 2 (a7.add 2) (.int .i64 n33)<|self20 [.int .i64 (w64 (i22+1))])<|self20 [.int .i64 (w64 (i22+1))])<|ix 30 (.slice x0 y0 z0) (n12) fun a36=>ldI .i64 3 (a36.add 2) fun n38=>st 3 (a7.add 1) (.int .i64 n38)<|qy (Instr.sliceAt 30 (.slice x0 y0 z0) (some (.int .i64 (w64 (n12+1)))) none none)<|fun v40=>unL v40 fun a41 n42 c43=>Lp (fun self44 l45=>unI .i64 (l45.headD undef) fun i46=>br (decide (i46<(n42:Int))) (ix 30 (.slice a41 n42 c43) (i46) fun a48=>ldA 101 (a48) fun a50=>new 101 fun a52=>st 101 (a52) (.agg (.mk a50))<|ldA 101 (a52) fun a55=>fn 112 [.pointer (some a7),.agg (.mk a55),.pointer (some a10)]<|fun v56=>unT v56 fun _=>self44 [.int .i64 (w64 (i46+1))])<|ldA 39 (a7) fun a59=>ldL 91 (a10) fun a61 n62 c63=>st 39 (a3) (.agg (.mk a59))<|stb (Instr.loadAt 91 (.pointer (some a10))) (.slice a61 n62 c63)<|qy (loadVar 39 a3)<|fun v65=>unA v65 fun a66=>K (.tuple (Array.mk [.agg (.mk a66),.slice a61 n62 c63,.bool true]))) [.int .i64 0]) [.int .i64 0]
theorem f41 {x0:Option Addr} {y0 z0:Nat} {x1:Int} (h:s41 x0 y0 z0 x1 K cs):fn 41 [.slice x0 y0 z0,.int .i64 x1] K cs:=fO (an:=⟨[(7,[(26,.int .i64)]),(14,[(48,.int .i64)])],[]⟩) Tryz.func41 h
@[reducible] def s111 (x0:List Value) (x1:Addr) (K:Value→SP):SP:=
 box 101 (.agg (.mk x0)) fun a1=>ldI .i64 3 (a1.add 0) fun n3=>br (n3 == 2) (ldI .i64 3 (a1.add 1) fun n5=>ldI .i64 3 (x1) fun n7=>K (.bool (n5 == n7)))<|K (.bool false)
theorem f111 {x0:List Value} {x1:Addr} (h:s111 x0 x1 K cs):fn 111 [.agg (.mk x0),.pointer (some x1)] K cs:=fO (an:=⟨[],[]⟩) Tryz.func111 h
@[reducible] def s112 (x0:Addr) (x1:List Value) (x2:Option Addr) (K:Value→SP):SP:=
 box 101 (.agg (.mk x1)) fun a1=>new 228 fun a3=>new 226 fun a5=>Jn (fun _=>ldL 36 (x0.add 3) fun a9 n10 c11=>ldA 228 (a3) fun a13=>sm (Instr.buildSlice 36 1 (Array.mk [(0,.agg (.mk a13))]))<|fun v14=>unL v14 fun a15 n16 c17=>stb (Instr.loadAt 36 (.pointer (some (x0.add 3)))) (.slice a9 n10 c11)<|sm (Builtin.append_ (Array.mk [36,36]) 36 (Array.mk [.slice a9 n10 c11,.slice a15 n16 c17]))<|fun v18=>unL v18 fun a19 n20 c21=>st 36 (x0.add 3) (.slice a19 n20 c21)<|nn (x2) fun a23=>ldL 91 (a23) fun a25 n26 c27=>ldA 226 (a5) fun a29=>sm (Instr.buildSlice 91 1 (Array.mk [(0,.agg (.mk a29))]))<|fun v30=>unL v30 fun a31 n32 c33=>stb (Instr.loadAt 91 (.pointer (some a23))) (.slice a25 n26 c27)<|sm (Builtin.append_ (Array.mk [91,91]) 91 (Array.mk [.slice a25 n26 c27,.slice a31 n32 c33]))<|fun v34=>unL v34 fun a35 n36 c37=>nn (x2) fun a38=>st 91 (a38) (.slice a35 n36 c37)<|K (undef))<|fun j7=>ldI .i64 3 (a1.add 0) fun n41=>br (n41 == 7) (ldI .i64 3 (x0.add 8) fun n43=>br (n43 == 0) (ldI .i64 2 (a1.add 3) fun n45=>st 228 (a3) (.agg (.mk [.int .i64 4,.string (bs []),.int .i64 0,.int .i64 n45]))<|j7 [])<|ldI .i64 3 (a1.add 1) fun n48=>ldI .i64 3 (x0.add 0) fun n50=>br (n48 != n50) (K (undef))<|ldI .i64 3 (a1.add 0) fun n52=>br (n52 == 4) (ldS 9 (x0.add 5) fun s54=>ldS 9 (a1.add 4) fun s56=>qy (bsem BinOp.add 9 (Operand.tmp 37) (Operand.tmp 39) (.string s54) (.string s56))<|fun v57=>unS v57 fun s58=>st 9 (x0.add 5) (.string s58)<|ldS 9 (a1.add 4) fun s61=>ldS 9 (a1.add 4) fun s63=>st 228 (a3) (.agg (.mk [.int .i64 1,.string s61,.int .i64 0,.int .i64 0]))<|stb (Instr.loadAt 9 (.pointer (some (a1.add 4)))) (.string s63)<|st 3 (a5.add 0) (.int .i64 (s63.size:Int))<|j7 [])<|ldI .i64 3 (a1.add 0) fun n67=>br (n67 == 5) (st 4 (x0.add 7) (.bool true)<|st 228 (a3) (.agg (.mk [.int .i64 2,.string (bs []),.int .i64 0,.int .i64 0]))<|st 4 (a5.add 8) (.bool true)<|j7 [])<|ldI .i64 3 (a1.add 0) fun n72=>br (n72 == 6) (ldS 9 (x0.add 6) fun s74=>ldS 9 (a1.add 4) fun s76=>qy (bsem BinOp.add 9 (Operand.tmp 66) (Operand.tmp 68) (.string s74) (.string s76))<|fun v77=>unS v77 fun s78=>st 9 (x0.add 6) (.string s78)<|ldI .i64 3 (a1.add 2) fun n81=>ldS 9 (a1.add 4) fun s83=>st 228 (a3) (.agg (.mk [.int .i64 3,.string (bs []),.int .i64 n81,.int .i64 0]))<|stb (Instr.loadAt 9 (.pointer (some (a1.add 4)))) (.string s83)<|st 9 (a5.add 1) (.string s83)<|j7 [])<|ldI .i64 3 (a1.add 0) fun n87=>br (n87 == 8) (ldL 37 (x0.add 4) fun a89 n90 c91=>ldA 99 (a1.add 6) fun a93=>ldI .i64 3 ((a1.add 6).add 5) fun n95=>sm (Instr.buildSlice 37 1 (Array.mk [(0,.agg (.mk a93))]))<|fun v96=>unL v96 fun a97 n98 c99=>stb (Instr.loadAt 3 (.pointer (some ((a1.add 6).add 5)))) (.int .i64 n95)<|stb (Instr.loadAt 37 (.pointer (some (x0.add 4)))) (.slice a89 n90 c91)<|sm (Builtin.append_ (Array.mk [37,37]) 37 (Array.mk [.slice a89 n90 c91,.slice a97 n98 c99]))<|fun v100=>unL v100 fun a101 n102 c103=>stb (Instr.loadAt 3 (.pointer (some ((a1.add 6).add 5)))) (.int .i64 n95)<|st 37 (x0.add 4) (.slice a101 n102 c103)<|stb (Instr.loadAt 3 (.pointer (some ((a1.add 6).add 5)))) (.int .i64 n95)<|st 3 (x0.add 8) (.int .i64 n95)<|ldI .i64 2 ((a1.add 6).add 0) fun n107=>ldA 99 (a1.add 6) fun a109=>st 228 (a3) (.agg (.mk [.int .i64 5,.string (bs []),.int .i64 0,.int .i64 n107]))<|stb (Instr.loadAt 99 (.pointer (some (a1.add 6)))) (.agg (.mk a109))<|st 99 (a5.add 2) (.agg (.mk a109))<|st 4 (a5.add 8) (.bool true)<|j7 [])<|K (undef))<|ldI .i64 3 (a1.add 1) fun n114=>ldI .i64 3 (x0.add 0) fun n116=>br (n114 != n116) (K (undef))<|ldI .i64 3 (a1.add 0) fun n118=>br (n118 == 4) (ldS 9 (x0.add 5) fun s120=>ldS 9 (a1.add 4) fun s122=>qy (bsem BinOp.add 9 (Operand.tmp 37) (Operand.tmp 39) (.string s120) (.string s122))<|fun v123=>unS v123 fun s124=>st 9 (x0.add 5) (.string s124)<|ldS 9 (a1.add 4) fun s127=>ldS 9 (a1.add 4) fun s129=>st 228 (a3) (.agg (.mk [.int .i64 1,.string s127,.int .i64 0,.int .i64 0]))<|stb (Instr.loadAt 9 (.pointer (some (a1.add 4)))) (.string s129)<|st 3 (a5.add 0) (.int .i64 (s129.size:Int))<|j7 [])<|ldI .i64 3 (a1.add 0) fun n133=>br (n133 == 5) (st 4 (x0.add 7) (.bool true)<|st 228 (a3) (.agg (.mk [.int .i64 2,.string (bs []),.int .i64 0,.int .i64 0]))<|st 4 (a5.add 8) (.bool true)<|j7 [])<|ldI .i64 3 (a1.add 0) fun n138=>br (n138 == 6) (ldS 9 (x0.add 6) fun s140=>ldS 9 (a1.add 4) fun s142=>qy (bsem BinOp.add 9 (Operand.tmp 66) (Operand.tmp 68) (.string s140) (.string s142))<|fun v143=>unS v143 fun s144=>st 9 (x0.add 6) (.string s144)<|ldI .i64 3 (a1.add 2) fun n147=>ldS 9 (a1.add 4) fun s149=>st 228 (a3) (.agg (.mk [.int .i64 3,.string (bs []),.int .i64 n147,.int .i64 0]))<|stb (Instr.loadAt 9 (.pointer (some (a1.add 4)))) (.string s149)<|st 9 (a5.add 1) (.string s149)<|j7 [])<|ldI .i64 3 (a1.add 0) fun n153=>br (n153 == 8) (ldL 37 (x0.add 4) fun a155 n156 c157=>ldA 99 (a1.add 6) fun a159=>ldI .i64 3 ((a1.add 6).add 5) fun n161=>sm (Instr.buildSlice 37 1 (Array.mk [(0,.agg (.mk a159))]))<|fun v162=>unL v162 fun a163 n164 c165=>stb (Instr.loadAt 3 (.pointer (some ((a1.add 6).add 5)))) (.int .i64 n161)<|stb (Instr.loadAt 37 (.pointer (some (x0.add 4)))) (.slice a155 n156 c157)<|sm (Builtin.append_ (Array.mk [37,37]) 37 (Array.mk [.slice a155 n156 c157,.slice a163 n164 c165]))<|fun v166=>unL v166 fun a167 n168 c169=>stb (Instr.loadAt 3 (.pointer (some ((a1.add 6).add 5)))) (.int .i64 n161)<|st 37 (x0.add 4) (.slice a167 n168 c169)<|stb (Instr.loadAt 3 (.pointer (some ((a1.add 6).add 5)))) (.int .i64 n161)<|st 3 (x0.add 8) (.int .i64 n161)<|ldI .i64 2 ((a1.add 6).add 0) fun n173=>ldA 99 (a1.add 6) fun a175=>st 228 (a3) (.agg (.mk [.int .i64 5,.string (bs []),.int .i64 0,.int .i64 n173]))<|stb (Instr.loadAt 99 (.pointer (some (a1.add 6)))) (.agg (.mk a175))<|st 99 (a5.add 2) (.agg (.mk a175))<|st 4 (a5.add 8) (.bool true)<|j7 [])<|K (undef)
theorem f112 {x0:Addr} {x1:List Value} {x2:Option Addr} (h:s112 x0 x1 x2 K cs):fn 112 [.pointer (some x0),.agg (.mk x1),.pointer x2] K cs:=fO (an:=⟨[],[(18,[])]⟩) Tryz.func112 h
end Go.Proofs.YtbjlfobjngogkaaGreatDoor
namespace Go.Proofs.YtbjlfobjngogkaaGreatDoor
open Go
set_option synthInstance.maxSize 100000
set_option synthInstance.maxHeartbeats 1000000
set_option maxRecDepth 100000
theorem u8_ex (n:Int):∃d:UInt8,IntKind.wrap .u8 n=(d.toNat:Nat):=by
 rw [wrap_u8]
 refine⟨UInt8.ofNat (n % 256).toNat,?_⟩
 have h1:0≤n % 256:=Int.emod_nonneg _ (by decide)
 have h2:n % 256<256:=Int.emod_lt_of_pos _ (by decide)
 rw [UInt8.toNat_ofNat']
 omega
theorem sat_ex (s:ByteArray) (k:Int):∃d:UInt8,sat s k=(d.toNat:Nat):=⟨_,rfl⟩
section
variable {cs:St} {K:Value→SP}
instance c452 {x:Int}:Go1 (fn 452 [.int .u8 x] K cs) (∀(d:UInt8) (b:Bool),K (.tuple ⟨[.int .u8 (d.toNat:Nat),.bool b]⟩) cs):=⟨fun h=>f452 (by
 unfold s452
 obtain⟨d1,e1⟩:=u8_ex (x-48)
 obtain⟨d2,e2⟩:=u8_ex (IntKind.wrap .u8 (x-97)+10)
 rw [e1,e2]
 refine go ?_
 repeat' (first | apply And.intro | intro _)
 all_goals first
  | exact h _ _
  | exact h 0 _)⟩
instance c439 {s:ByteArray} {x:Int}:Go1 (fn 439 [.string s,.int .i64 x] K cs) ((0≤x∧s.size≤1000000000000∧x≤1000000000000)∧∀(d:UInt8) (k:Nat) (b:Bool),(b=true→x+2=k∧k≤s.size)→(k:Int)≤max (s.size:Int) (x+2)→K (.tuple ⟨[.int .u8 (d.toNat:Nat),.int .i64 k,.bool b]⟩) cs):=⟨fun⟨⟨hx,hz,hx2⟩,h⟩=>up0 (f439 (by
 obtain⟨x,rfl⟩:∃n:Nat,x=n:=⟨x.toNat,by omega⟩
 unfold s439
 refine lp (fun y:UInt8×Nat=>[.int .u8 (y.1.toNat:Nat),.int .i64 y.2]) (fun _=>cs) (fun y=>y.2≤2∧(0<y.2→x+y.2≤s.size)) (fun y=>2-y.2) (0,0) rfl (Imp.refl _) ⟨Nat.zero_le _,fun h=>absurd h (Nat.lt_irrefl _)⟩ ?_
 rintro⟨d,i⟩ ⟨i1,i2⟩
 dsimp only at *
 have e1:w64 ((x:Int)+i)=((x+i:Nat):Int):=by rw [w64_id (by omega)];omega
 have e2:w64 ((x:Int)+2)=((x+2:Nat):Int):=by rw [w64_id (by omega)];omega
 refine go ?_
 rw [e1,e2]
 simp only [decide_eq_true_eq,decide_eq_false_iff_not]
 refine⟨fun c0=>⟨fun c1=> ?_,fun c1=>⟨⟨by omega,by omega⟩,fun d2 b=>⟨fun c2=> ?_,fun c2=> ?_⟩⟩⟩,fun c0=> ?_⟩
 ·exact fin (h 0 s.size false (fun e=>by cases e) (by omega))
 ·exact fin (h 0 (x+i) false (fun e=>by cases e) (by omega))
 ·obtain⟨d3,e3⟩:=u8_ex ↑(BitVec.ofInt 8 (IntKind.wrap .u8 ((d.toNat:Nat)*16))|||BitVec.ofInt 8 ((d2.toNat:Nat):Int)).toNat
  exact⟨(d3,i+1),by rw [e3,w64_succ (by omega)],Imp.refl _,⟨by simp only;omega,fun _=>by simp only;omega⟩,by simp only;omega⟩
 ·have:i=2:=by omega
  subst this
  exact fin (h d (x+2) true (fun _=>⟨by omega,by omega⟩) (by omega))))⟩
instance c426 {s:ByteArray} {x:Int}:Go1 (fn 426 [.string s,.int .i64 x] K cs) ((0≤x∧s.size≤100000000000∧x≤s.size)∧∀(d:UInt8) (k:Nat) (b:Bool),(b=true→x<k∧k≤s.size)→(k:Int)≤s.size+3→K (.tuple ⟨[.int .u8 (d.toNat:Nat),.int .i64 k,.bool b]⟩) cs):=⟨fun⟨⟨hx,hz,hx2⟩,h⟩=>f426 (by
 obtain⟨x,rfl⟩:∃n:Nat,x=n:=⟨x.toNat,by omega⟩
 unfold s426
 obtain⟨d1,e1⟩:=sat_ex s x
 have e2:w64 ((x:Int)+1)=((x+1:Nat):Int):=w64_succ (by omega)
 refine go ?_
 rw [e1,e2]
 simp only [decide_eq_true_eq,decide_eq_false_iff_not]
 repeat' (first | apply And.intro | intro _)
 all_goals first
  | exact h 0 s.size false (fun e=>by cases e) (by omega)
  | omega
  | exact h d1 (x+1) true (fun _=>⟨by omega,by omega⟩) (by omega)
  | exact h 10 (x+1) true (fun _=>⟨by omega,by omega⟩) (by omega)
  | exact h 13 (x+1) true (fun _=>⟨by omega,by omega⟩) (by omega)
  | exact h 9 (x+1) true (fun _=>⟨by omega,by omega⟩) (by omega)
  | exact h 0 x false (fun e=>by cases e) (by omega)
  | skip
 all_goals
  rename_i d k b hb hk
  refine h d k b (fun e=> ?_) (by omega)
  have:=hb e
  omega)⟩
instance c425 {s:ByteArray} {x:Int}:Go1 (fn 425 [.string s,.int .i64 x] K cs) (0≤x∧∀(i:Nat) (e:Int),e≠0→i≤s.size→K (.tuple ⟨[.string (bs []),.int .i64 i,.int .i64 e]⟩) cs):=⟨fun⟨hx,h⟩=>f425 (by
 obtain⟨x,rfl⟩:∃n:Nat,x=n:=⟨x.toNat,by omega⟩
 unfold s425
 refine go ⟨fun c=>h s.size 3 (by decide) (Nat.le_refl _),fun c=> ?_⟩
 have c:=of_decide_eq_false c
 exact h x 2 (by decide) (by omega))⟩
instance rowText {a:Option Addr} {n c:Nat} {l:List UInt8} [r:Rw 5 1 cs a n c encB l]:Go1 (qy (convert 110 9 (.slice a n c)) K cs) (K (.string (sb l)) cs):=⟨fun h=>by
 have hn:=r.h.len
 have h1:Tryz.prog.underlying 110=some (.slice 5):=Tryz.underlying110
 have h2:Tryz.prog.underlying 5=some (.int .u8):=Tryz.underlying5
 have h3:Tryz.prog.underlying 9=some .string:=Tryz.underlying9
 have e:(⟨ByteArray.empty.data++((nb l).map fun n=>UInt8.ofNat n.toNat).toArray⟩:ByteArray)=sb l:=by
  rw [nb_back];exact congrArg ByteArray.mk (Array.ext' (by simp))
 have ee:l.flatMap encB.f=(nb l).map (Value.int .u8):=by
  clear h e hn r
  induction l with
  | nil=>rfl
  | cons x l ih=>rw [List.flatMap_cons,ih];rfl
 refine⟨_,fun E w hw=> ?_,h⟩
 rw [run_convert_bytes_string w 110 9 5 a n c h1 h2 h3]
 have main:∀b o,a=some (ad b o)→(∀j u,(l.flatMap encB.f)[j]? =some u→w.cell? ((ad b o).add j)=some u)→(Conv.bytesToString (.slice a n c)).run Tryz.prog w= .ok (.string (sb l)) w:=by
  intro b o ha hc
  subst ha
  have:=run_loadCells_list (P:=Tryz.prog) (w:=w) (ad b o) ((nb l).map (Value.int .u8)) (fun j v hj=>hc j v (by rw [ee];exact hj))
  simp only [List.length_map,nb_length]at this
  rw [←hn]at this
  rw [run_bytesToString w (ad b o) n c _ this,fold_push,e]
 by_cases h0:0<n
 ·obtain⟨b,ha,hr⟩:=rows_reads r.h h0
  obtain⟨b',o',rfl⟩:∃b' o',b=ad b' o':=by
   obtain⟨b2,o2,T2,c2,h5,_,_⟩:=r.h.get h0
   rw [ha]at h5;exact⟨b2,o2,Option.some.inj h5⟩
  exact main b' o' ha (fun j u hu=>hr E w hw j u hu)
 ·have hz:l=[]:=List.length_eq_zero_iff.1 (by omega)
  have hz2:n=0:=by omega
  subst hz hz2
  cases a with
  | none=>rfl
  | some p=>
   have:=run_loadCells_list (P:=Tryz.prog) (w:=w) p ([]:List Value) (fun j v hj=>by simp at hj)
   have h9:=run_bytesToString w p 0 c [] (by simpa using this)
   rw [h9];rfl⟩
instance c404 {s:ByteArray}:Go1 (fn 404 [.string s] K cs) (s.size≤100000000000∧∀(t:ByteArray) (i:Nat) (e:Int),t.size≤s.size→i≤s.size→(e=0→0<i)→K (.tuple ⟨[.string t,.int .i64 i,.int .i64 e]⟩) cs):=⟨fun⟨hz,h⟩=>up0 (f404 (by
 have hbad:∀(i:Nat) (e:Int),e≠0→i≤s.size→K (.tuple ⟨[.string (bs []),.int .i64 i,.int .i64 e]⟩) cs:=fun i e he hi=>h (bs []) i e (Nat.zero_le _) hi (fun hh=>absurd hh he)
 unfold s404
 refine⟨fun _ c=>Imp c cs∧0<s.size,fun _ c hc=>⟨_,hc.1,?_⟩,?_⟩
 ·refine lp (fun y:Nat×Option Addr×Nat×Chunk×List UInt8=>[.slice y.2.1 y.2.2.2.2.length y.2.2.1,.int .i64 y.1]) (fun y=>y.2.2.2.1::cs) (fun y=>1≤y.1∧y.1≤s.size∧Row 5 1 y.2.1 y.2.2.2.2.length y.2.2.1 encB y.2.2.2.2 y.2.2.2.1∧y.2.2.2.2.length+1≤y.1) (fun y=>s.size-y.1) (1,none,0,[],[]) rfl drp ⟨Nat.le_refl _,hc.2,⟨Sl.nil⟩,Nat.le_refl _⟩ ?_
  rintro⟨i,a,c',ch,l⟩ ⟨i1,i2,i3,i4⟩
  dsimp only at *
  obtain⟨d,ed⟩:=sat_ex s i
  have e1:w64 ((i:Int)+1)=((i+1:Nat):Int):=w64_succ (by omega)
  refine go ?_
  simp only [decide_eq_true_eq,decide_eq_false_iff_not]
  refine⟨fun c0=>⟨by omega,?_⟩,fun c0=>⟨by omega,fun i e he hi=>fin (hbad i e he hi)⟩⟩
  refine⟨fun l1 c1=>(∃(d:UInt8) (k:Nat) (b:Bool),l1=[.int .u8 (d.toNat:Nat),.int .i64 k,.bool b]∧(b=true→i<k∧k≤s.size))∧Imp c1 (ch::cs),fun l1 c1 hc=> ?_,?_⟩
  ·obtain⟨⟨d2,k,b,rfl,hb⟩,hi⟩:=hc
   refine⟨_,hi,?_⟩
   refine go ⟨fun c1=>⟨by omega,fun i e he hi=>fin (hbad i e he hi)⟩,fun c1=>⟨⟨by omega,by omega,by omega⟩,d2,rfl,fun a' c2 ch' r'=>⟨(k,a',c2,ch',l++[d2]),?_,drp,?_,?_⟩⟩⟩
   ·simp only [List.length_append,List.length_singleton]
   ·have hb:=hb (by simpa using c1)
    refine⟨by simp only;omega,hb.2,?_,?_⟩
    ·simp only [List.length_append,List.length_singleton];exact r'
    ·simp only [List.length_append,List.length_singleton];omega
   ·have hb:=hb (by simpa using c1)
    simp only;omega
  ·refine go ?_
   rw [e1,ed]
   simp only [decide_eq_true_eq,decide_eq_false_iff_not]
   refine⟨fun _=>fin (h (sb l) (i+1) 0 ?_ (by omega) (fun _=>by omega)),fun _=>⟨fun _=>⟨by omega,fun d2 k b hb hk=>⟨⟨d2,k,b,rfl,fun e=>by have:=hb e;omega⟩,Imp.refl _⟩⟩,fun _=>⟨fun _=>⟨by omega,fun i e he hi=>fin (hbad i e he hi)⟩,fun _=>⟨fun _=>⟨by omega,fun i e he hi=>fin (hbad i e he hi)⟩,fun _=>⟨⟨d,i+1,true,rfl,fun _=>by omega⟩,Imp.refl _⟩⟩⟩⟩⟩
   show l.length≤s.size
   omega
 ·refine go ?_
  simp only [empty_iff,decide_eq_true_eq,decide_eq_false_iff_not]
  exact⟨fun c0=>⟨by omega,fun i e he hi=>fin (hbad i e he hi)⟩,fun c0=>⟨⟨by omega,by omega⟩,fun _=>⟨by omega,fun i e he hi=>fin (hbad i e he hi)⟩,fun _=>⟨Imp.refl _,by omega⟩⟩⟩))⟩
instance c379 {s:ByteArray}:Go1 (fn 379 [.string s] K cs) (s.size≤100000000000∧∀(t:ByteArray) (i:Nat) (e:Int),t.size≤s.size→i≤s.size→(e=0→0<i)→K (.tuple ⟨[.string t,.int .i64 i,.int .i64 e]⟩) cs):=⟨fun h=>f379 (by
 unfold s379
 exact go h)⟩
end
structure WordM where
 text:ByteArray
 quoted:Bool
 at_:Int
@[reducible] def encWd:Enc WordM 3:=⟨fun x=>[.string x.text,.bool x.quoted,.int .i64 x.at_],by omega,fun _=>rfl⟩
section
variable {cs:St} {K:Value→SP}
instance c405 {x:Int}:Go1 (fn 405 [.int .u8 x] K cs) (∀b:Bool,K (.bool b) cs):=⟨fun h=>f405 (by
 unfold s405
 refine go ?_
 repeat' (first | apply And.intro | intro _)
 all_goals exact h _)⟩
instance c380 {s:ByteArray}:Go1 (fn 380 [.string s] K cs) (s.size≤100000000000∧∀i:Nat,i≤s.size→K (.int .i64 i) cs):=⟨fun⟨hz,h⟩=>up0 (f380 (by
 unfold s380
 refine lp (fun i:Nat=>[.int .i64 i]) (fun _=>cs) (fun i=>i≤s.size) (fun i=>s.size-i) 0 rfl (Imp.refl _) (Nat.zero_le _) ?_
 intro i hi
 refine go ?_
 simp only [decide_eq_true_eq,decide_eq_false_iff_not]
 exact⟨fun c0=>⟨⟨by omega,by omega⟩,fun b=>⟨fun _=>⟨i+1,by rw [w64_succ (by omega)],Imp.refl _,by omega,by omega⟩,fun _=>fin (h i hi)⟩⟩,fun _=>fin (h i hi)⟩))⟩
instance c381 {s:ByteArray} {x:Int}:Go1 (fn 381 [.string s,.int .i64 x] K cs) (0≤x∧∀(i:Nat) (e:Int),e≠0→i≤s.size→K (.tuple ⟨[.slice none 0 0,.int .i64 i,.int .i64 e]⟩) cs):=⟨fun⟨hx,h⟩=>f381 (by
 obtain⟨x,rfl⟩:∃n:Nat,x=n:=⟨x.toNat,by omega⟩
 unfold s381
 refine go ⟨fun c=>h s.size 3 (by decide) (Nat.le_refl _),fun c=> ?_⟩
 have c:=of_decide_eq_false c
 exact h x 2 (by decide) (by omega))⟩
theorem c315t {s:ByteArray} (h:∀(a:Option Addr) (c:Nat) (ch:Chunk) (L:List WordM) (i:Nat) (e:Int),Row 472 3 a L.length c encWd L ch→(∀w∈L,w.text.size≤1200∧0≤w.at_∧w.at_≤1200)→L.length≤1200→i≤1200→(e=0→0<s.size→0<L.length)→(e=0→s.size≤1200)→
  K (.tuple ⟨[.slice a L.length c,.int .i64 i,.int .i64 e]⟩) (ch::cs)):fn 315 [.string s] K cs:=up0 (f315 (by
 have hbad:∀(i:Nat) (e:Int),e≠0→i≤1200→K (.tuple ⟨[.slice none 0 0,.int .i64 i,.int .i64 e]⟩) ([]::cs):=fun i e he hi=>h none 0 [] [] i e ⟨Sl.nil⟩ (fun w hw=>nomatch hw) (Nat.zero_le _) hi (fun hh=>absurd hh he) (fun hh=>absurd hh he)
 unfold s315
 refine go ?_
 simp only [empty_iff,decide_eq_true_eq,decide_eq_false_iff_not]
 refine⟨fun c0=>fin (hbad 1200 4 (by decide) (Nat.le_refl _)),fun c0=>⟨fun c1=>fin (h none 0 [] [] 0 0 ⟨Sl.nil⟩ (fun w hw=>nomatch hw) (Nat.zero_le _) (Nat.zero_le _) (fun _ hh=>by omega) (fun _=>by omega)),fun c1=> ?_⟩⟩
 refine lp (fun y:Nat×Option Addr×Nat×Chunk×List WordM=>[.slice y.2.1 y.2.2.2.2.length y.2.2.1,.int .i64 y.1]) (fun y=>y.2.2.2.1::cs) (fun y=>y.1≤s.size∧Row 472 3 y.2.1 y.2.2.2.2.length y.2.2.1 encWd y.2.2.2.2 y.2.2.2.1∧y.2.2.2.2.length≤y.1∧∀w∈y.2.2.2.2,w.text.size≤1200∧0≤w.at_∧w.at_≤1200) (fun y=>s.size-y.1) (0,none,0,[],[]) rfl drp ⟨Nat.zero_le _,⟨Sl.nil⟩,Nat.le_refl _,fun w hw=>nomatch hw⟩ ?_
 rintro⟨i,a,c',ch,L⟩ ⟨i1,i2,i3,i4⟩
 dsimp only at *
 refine go fun b1=> ?_
 refine⟨fun l1 c1=>∃(k:Nat) (t:ByteArray) (q:Bool),l1=[.int .i64 k]∧i<k∧k≤s.size∧t.size≤1200∧Imp c1 (bk b1 472 [.string t,.bool q,.int .i64 i]::ch::cs),fun l1 c1 hc=> ?_,?_⟩
 ·obtain⟨k,t,q,rfl,k1,k2,k3,hi⟩:=hc
  refine⟨_,hi,?_⟩
  have e1:w64 ((k:Int)+1)=((k+1:Nat):Int):=w64_succ (by omega)
  have hw:∀w∈L++[(⟨t,q,i⟩:WordM)],w.text.size≤1200∧0≤w.at_∧w.at_≤1200:=fun w hw=>by
   rcases List.mem_append.1 hw with hw | hw
   ·exact i4 w hw
   ·simp only [List.mem_singleton]at hw
    subst hw
    exact⟨k3,by simp only;omega,by simp only;omega⟩
  have hlen:(L++[(⟨t,q,i⟩:WordM)]).length=L.length+1:=by rw [List.length_append,List.length_singleton]
  refine go ⟨⟨by omega,by omega,by omega⟩,⟨t,q,i⟩,rfl,fun a' c2 ch' r'=> ?_⟩
  rw [e1]
  have r2:Row 472 3 a' (L++[(⟨t,q,i⟩:WordM)]).length c2 encWd (L++[⟨t,q,i⟩]) ch':=by rw [hlen];exact r'
  refine⟨fun _=> ?_,fun c2'=>⟨⟨by omega,?_⟩,fun _=>⟨by omega,fun j e he hj=>fin (hbad j e he (by omega))⟩,fun _=>⟨(k+1,a',c2,ch',L++[⟨t,q,i⟩]),by simp only [hlen],drp,⟨?_,r2,by simp only [hlen];omega,hw⟩,by simp only;omega⟩⟩⟩
  ·have:=h a' c2 ch' (L++[⟨t,q,i⟩]) 0 0 r2 hw (by rw [hlen];omega) (Nat.zero_le _) (fun _ _=>by rw [hlen];omega) (fun _=>by omega)
   rw [hlen]at this
   exact fin this
  ·have:¬(k:Int)=s.size:=by simpa using c2'
   omega
  ·have:¬(k:Int)=s.size:=by simpa using c2'
   simp only;omega
 ·have bare:∀(n:Nat),i+n≤s.size→n≠0→∃(k:Nat) (t:ByteArray) (q:Bool),([Value.int .i64 (w64 ((i:Int)+n))]:List Value)=[.int .i64 k]∧i<k∧k≤s.size∧t.size≤1200∧Imp (bk b1 472 [.string (s.extract (i:Int).toNat (w64 ((i:Int)+n)).toNat),.bool false,.int .i64 i]::ch::cs) (bk b1 472 [.string t,.bool q,.int .i64 i]::ch::cs):=fun n hn h0=>
   ⟨i+n,_,false,by rw [w64_id (by omega)];rfl,by omega,hn,by rw [ByteArray.size_extract];omega,Imp.refl _⟩
  have ex1:(s.extract (i:Int).toNat s.size).size=s.size-i:=by rw [ByteArray.size_extract];omega
  refine go ?_
  rw [ex1]
  simp only [decide_eq_true_eq,decide_eq_false_iff_not,beq_iff_eq,beq_eq_false_iff_ne,bne_iff_ne,ne_eq,bne_eq_false_iff_eq]
  have bare2:(0≤(i:Int)∧(i:Int)≤s.size)∧s.size-i≤100000000000∧∀x:Nat,x≤s.size-i→
    ((x:Int)=0→0≤(i:Int)∧∀(x:Nat) (x_2:Int),¬x_2=0→x≤s.size→Up K (.tuple ⟨[.slice none 0 0,.int .i64 x,.int .i64 x_2]⟩) (bk b1 472 [.string (bs []),.bool false,.int .i64 i]::ch::cs))∧
    (¬(x:Int)=0→(0≤(i:Int)∧(i:Int)≤w64 ((i:Int)+x)∧w64 ((i:Int)+x)≤s.size)∧∃(k:Nat) (t:ByteArray) (q:Bool),([Value.int .i64 (w64 ((i:Int)+x))]:List Value)=[.int .i64 k]∧i<k∧k≤s.size∧t.size≤1200∧Imp (bk b1 472 [.string (s.extract (i:Int).toNat (w64 ((i:Int)+x)).toNat),.bool false,.int .i64 i]::ch::cs) (bk b1 472 [.string t,.bool q,.int .i64 i]::ch::cs)):=
   ⟨⟨by omega,by omega⟩,by omega,fun x hx=>⟨fun _=>⟨by omega,fun j e he hj=>fin (hbad j e he (by omega))⟩,fun h0=>⟨by rw [w64_id (by omega)];omega,bare x (by omega) (by omega)⟩⟩⟩
  refine⟨fun c2=>⟨⟨by omega,by omega⟩,fun _=>⟨⟨by omega,by omega⟩,by omega,fun t n e ht hn he=>⟨fun h0=> ?_,fun h0=>⟨i+n,t,true,?_,?_,by omega,by omega,Imp.refl _⟩⟩⟩,fun _=>bare2⟩,fun _=>bare2⟩
  ·have:=hbad (i+n) e h0 (by omega)
   rw [w64_id (by omega)]
   exact fin (c':=[]::cs) this
  ·rw [w64_id (by omega)];rfl
  ·have:=he h0;omega))
end
end Go.Proofs.YtbjlfobjngogkaaGreatDoor
namespace Go.Proofs.YtbjlfobjngogkaaGreatDoor
open Go Go.RowKit
set_option synthInstance.maxSize 100000
set_option synthInstance.maxHeartbeats 1000000
set_option maxRecDepth 100000
class Glob (cs:St):Prop where
 h:∃(m:Int) (ev:Value),(∀E w,Hs E w cs→w.cell? ⟨0,0,none⟩=some (.int .i64 m))∧(∀E w,Hs E w cs→w.cell? ⟨4,0,none⟩=some ev)∧(ev= .nilIface∨∃te pe,ev= .iface te pe)
theorem hs_tail {E w:World} {d:Chunk} {cs:St} (h:Hs E w (d::cs)):Hs E w cs:=
 (Imp.of_sub (l:=d) (by simpa using List.perm_append_comm):Imp (d::cs) cs) E w h
instance (priority:=50) globThere {cs:St} {d:Chunk} [g:Glob cs]:Glob (d::cs):=⟨by
 obtain⟨m,ev,h1,h2,h3⟩:=g.h
 exact⟨m,ev,fun E w hw=>h1 E w (hs_tail hw),fun E w hw=>h2 E w (hs_tail hw),h3⟩⟩
theorem hs_below {E w w':World} {cs:St} (hw:Hs E w cs) (hb:Below w.heap.size w w'):Hs E w' cs:=by
 have hlt:∀x∈cs.flatten,x.1<w.heap.size:=fun x hx=>by
  have h3:=hw.holds x hx
  rcases Nat.lt_or_ge x.1 w.heap.size with hh | hh
  ·exact hh
  ·rw [Array.getElem?_eq_none hh]at h3;cases h3
 exact⟨hb.os.trans hw.os,hb.output.trans hw.out,hb.tape.trans hw.tape,Nat.le_trans hw.size hb.size,fun x hx=>by rw [hb.block x.1 (hlt x hx)];exact hw.holds x hx,hw.nodup⟩
theorem below_bw (w:World) (e:TypeId) (s:ByteArray):Below w.heap.size w (Lib.bytesWorld w e s):=⟨rfl,rfl,rfl,by rw [Lib.bytesWorld_size];omega,fun k hk=>Lib.bytesWorld_at_old w e s k hk⟩
theorem enters312:∃fn,Tryz.prog.funcs[312]? =some fn∧(fn.name == "runtime.NumGoroutine")=false∧fn.body.isNone=false:=⟨_,Tryz.func312,by kernel_rfl,by kernel_rfl⟩
theorem enters52:∃fn,Tryz.prog.funcs[52]? =some fn∧(fn.name == "runtime.NumGoroutine")=false∧fn.body.isNone=false:=⟨_,Tryz.func52,by kernel_rfl,by kernel_rfl⟩
theorem enters222:∃fn,Tryz.prog.funcs[222]? =some fn∧(fn.name == "runtime.NumGoroutine")=false∧fn.body.isNone=false:=⟨_,Tryz.func222,by kernel_rfl,by kernel_rfl⟩
theorem enters454:∃fn,Tryz.prog.funcs[454]? =some fn∧(fn.name == "runtime.NumGoroutine")=false∧fn.body.isNone=false:=⟨_,Tryz.func454,by kernel_rfl,by kernel_rfl⟩
def splitV (s sep:ByteArray):List ByteArray:=Lib.splitB sep 0 (Lib.countB s sep) s
section
variable {cs:St} {K:Value→SP}
theorem c312t {s sep:ByteArray} (g:Glob cs) (hs:s.size<4294967281) (h1:1≤sep.size) (h:∀b,K (.slice (some (ad b 0)) (splitV s sep).length (splitV s sep).length) (bk b 9 ((splitV s sep).map Value.string)::cs)):fn 312 [.string s,.string sep] K cs:=⟨enters312,fun E w hw=>by
 obtain⟨m,ev,g1,g2,g3⟩:=g.h
 refine(Any.strings_Split shSplit (by kernel_rfl) s sep m w hs (g1 E w hw) h1).mono ?_
 rintro e w' ⟨rfl,rfl⟩
 have hl:(splitV s sep).length=Lib.countB s sep+1:=Lib.splitB_all sep h1 0 _ s rfl
 have:=h w.heap.size
 rw [hl]at this
 exact⟨_,_,rfl,hw.alloc _,this⟩⟩
instance c52 {s p:ByteArray}:Go1 (fn 52 [.string s,.string p] K cs) (K (.bool (Lib.hasPrefix s.data.toList p.data.toList)) cs):=⟨fun h=>⟨enters52,fun E w hw=>by
 refine(Any.strings_HasPrefix shPrefix s p w).mono ?_
 rintro e w' ⟨rfl,rfl⟩
 exact⟨_,_,rfl,hw,h⟩⟩⟩
theorem c222t {a:Option Addr} {n c:Nat} {l:List ByteArray} {sep:ByteArray} (r:Rw 9 1 cs a n c encS l) (hn:n≤140737488355328) (hlen:(Lib.join (l.map (·.data.toList)) sep.data.toList).length≤140737488355328)
  (h:K (.string ⟨(Lib.join (l.map (·.data.toList)) sep.data.toList).toArray⟩) cs):fn 222 [.slice a n c,.string sep] K cs:=⟨enters222,fun E w hw=>by
 have hl:=r.h.len
 by_cases h0:0<n
 ·obtain⟨b,o,T,cells,rfl,h2,h3⟩:=r.h.get h0
  obtain⟨z0,hz0⟩:=h2
  have hb:=hw.holds _ hz0
  have h2:Rd cs b T cells:=⟨z0,hz0⟩
  have hlt:b<w.heap.size:=by
   rcases Nat.lt_or_ge b w.heap.size with hh | hh
   ·exact hh
   ·rw [Array.getElem?_eq_none hh]at hb;cases hb
  have hj:=Any.strings_Join shJoin shJoinX b o c l sep w (fun j x hx=>by
   have e1:(l.flatMap encS.f)[j]? =some (.string x):=by
    have:=encS.flat_get l j 0 x hx (by omega)
    simpa using this
   have:=h2.cell hw (o+j)
   rw [show(⟨b,o+j,none⟩:Addr)=ad b (o+j)from rfl,this]
   exact h3 j _ e1) hlt (by omega) (by have:=r.h.cap;omega) hlen
  rw [hl]
  refine hj.mono ?_
  rintro e w' ⟨rfl,hb⟩
  exact⟨_,_,rfl,hs_below hw hb,h⟩
 ·have hz:l=[]:=List.length_eq_zero_iff.1 (by omega)
  have hz2:n=0:=by omega
  subst hz hz2
  refine(Any.strings_Join_none shJoin shJoinX a c sep w).mono ?_
  rintro e w' ⟨rfl,rfl⟩
  exact⟨_,_,rfl,hw,h⟩⟩
def numOk {α:Type} (r:Lib.NumEnd α):Bool:=match r with
 | .ok _=>true
 | .range=>true
 | _=>false
theorem c454t {s:ByteArray} (g:Glob cs) (hs:s.size≤1000000000000) (hd:numOk (Lib.parseIntB 64 s.data.toList)=true) (h1:∀v,K (.tuple ⟨[.int .i64 v,.nilIface]⟩) cs) (h2:∀v p,K (.tuple ⟨[.int .i64 v,.iface 566 p]⟩) cs):fn 454 [.string s,.int .i64 10,.int .i64 64] K cs:=⟨enters454,fun E w hw=>by
 obtain⟨m,ev,g1,g2,g3⟩:=g.h
 cases hp:Lib.parseIntB 64 s.data.toList with
 | ok v=>
  refine(Any.strconv_ParseInt_10_at64_ok shParse s (by omega) v hp w).mono ?_
  rintro e w' ⟨rfl,hw'⟩
  refine⟨_,cs,rfl,?_,h1 v⟩
  rcases hw' with rfl | ⟨t,rfl⟩
  ·exact hw
  ·exact hs_below hw (below_bw w 5 t)
 | range=>
  refine(Any.strconv_ParseInt_10_at64_range shParse s (by omega) hp ev w (g2 E w hw) g3).mono ?_
  rintro e w' ⟨N,rfl,_,_,hb⟩
  exact⟨_,cs,rfl,hs_below hw hb,h2 _ _⟩
 | _=>rw [hp]at hd;cases hd⟩
end
end Go.Proofs.YtbjlfobjngogkaaGreatDoor
namespace Go.Proofs.YtbjlfobjngogkaaGreatDoor
open Go
set_option synthInstance.maxSize 100000
set_option synthInstance.maxHeartbeats 1000000
set_option maxRecDepth 100000
section
variable {cs:St} {K:Value→SP}
instance c453 {s:ByteArray}:Go1 (fn 453 [.string s] K cs) (s.size≤100000000000∧∀b:Bool,(b=true→0<s.size∧∀k,k<s.size→48≤cAt (bl s) k∧cAt (bl s) k≤57)→K (.bool b) cs):=⟨fun⟨hz,h⟩=>up0 (f453 (by
 unfold s453
 refine lp (fun i:Nat=>[.int .i64 i]) (fun _=>cs) (fun i=>i≤s.size∧∀k,k<i→48≤cAt (bl s) k∧cAt (bl s) k≤57) (fun i=>s.size-i) 0 rfl (Imp.refl _) ⟨Nat.zero_le _,fun k hk=>absurd hk (Nat.not_lt_zero _)⟩ ?_
 rintro i ⟨i1,i2⟩
 have es:sat s (i:Int)=(cAt (bl s) i:Nat):=sat_cAt s i
 refine go ?_
 rw [es]
 simp only [empty_iff,decide_eq_true_eq,decide_eq_false_iff_not,Bool.not_eq_true',Bool.not_eq_false',beq_iff_eq,beq_eq_false_iff_ne]
 have yes:¬(i:Int)<s.size→0<s.size→∀b:Bool,Up K (.bool b) cs:=fun hi hp b=>fin (h b fun _=>⟨hp,fun k hk=>i2 k (by omega)⟩)
 refine⟨fun c0=>⟨⟨by omega,by omega⟩,fun _=>fin (h false fun e=>by cases e),fun _=>⟨⟨by omega,by omega⟩,fun _=>fin (h false fun e=>by cases e),fun _=>⟨i+1,by rw [w64_succ (by omega)],Imp.refl _,⟨by omega,fun k hk=> ?_⟩,by omega⟩⟩⟩,
  fun c0=>⟨fun c1=>yes c0 ?_ _,fun c1=>⟨fun c2=>⟨⟨by omega,by omega⟩,yes c0 (by omega) _⟩,fun _=>fin (h false fun e=>by cases e)⟩⟩⟩
 ·rcases Nat.lt_or_ge k i with hk2 | hk2
  ·exact i2 k hk2
  ·have:k=i:=by omega
   subst this;omega
 ·rw [Lib.toList_data,Lib.toList_data]at c1
  have:=congrArg List.length c1
  have e2:s.data.toList.length=s.size:=rfl
  rw [e2]at this
  have e3:(bs [48]).data.toList.length=1:=rfl
  omega))⟩
theorem uintM_ok (M:Nat):∀(l:List UInt8) (acc:Nat),(∀c∈l,48≤c.toNat∧c.toNat≤57)→numOk (Lib.parseUintM M acc l)=true
 | [],_,_=>by simp [Lib.parseUintM,numOk]
 | c::r,acc,h=>by
  rw [Lib.parseUintM,if_pos (h c (by simp))]
  split
  ·rfl
  ·split
   ·rfl
   ·exact uintM_ok M r _ fun d hd=>h d (by simp [hd])
theorem int_ok {l:List UInt8} (h0:l≠[]) (h:∀c∈l,48≤c.toNat∧c.toNat≤57):numOk (Lib.parseIntB 64 l)=true:=by
 cases l with
 | nil=>exact absurd rfl h0
 | cons c r=>
  have hc:=h c (by simp)
  unfold Lib.parseIntB
  dsimp only
  rw [if_neg (by omega)]
  have hu:numOk (Lib.parseUintB 64 (c::r))=true:=by
   unfold Lib.parseUintB
   rw [if_neg (by simp)]
   exact uintM_ok _ _ _ h
  cases hp:Lib.parseUintB 64 (c::r)with
  | range=>rfl
  | ok u=>dsimp only;split;rfl;split <;>rfl
  | _=>rw [hp]at hu;cases hu
theorem und118:∃ms,Tryz.prog.underlying 118=some (.interface ms):=⟨_,Tryz.underlying118⟩
theorem run_eqNil (w:World):(Op.equal 118 .nilIface .nilIface).run Tryz.prog w= .ok true w:=by
 obtain⟨ms,hu⟩:=und118
 show(Op.equalIn (9999+1) 118 .nilIface .nilIface).run Tryz.prog w=_
 rw [Op.equalIn]
 simp [run_under hu]
theorem run_eqErr (w:World) (t:TypeId) (p:Value):(Op.equal 118 (.iface t p) .nilIface).run Tryz.prog w= .ok false w:=by
 obtain⟨ms,hu⟩:=und118
 show(Op.equalIn (9999+1) 118 (.iface t p) .nilIface).run Tryz.prog w=_
 rw [Op.equalIn]
 simp [run_under hu]
instance neNil {x:Operand} {c:Value}:Go1 (qy (bsem .neq 118 x (.const c) .nilIface .nilIface) K cs) (K (.bool false) cs):=⟨fun h=>⟨_,fun E w hw=>by
 simp [bsem,eqGuard,binOp,run_eqNil,Result.andThen],h⟩⟩
instance neErr {x:Operand} {c:Value} {t:TypeId} {p:Value}:Go1 (qy (bsem .neq 118 x (.const c) (.iface t p) .nilIface) K cs) (K (.bool true) cs):=⟨fun h=>⟨_,fun E w hw=>by
 simp [bsem,eqGuard,binOp,run_eqErr,Result.andThen],h⟩⟩
instance c440 {s:ByteArray} [g:Glob cs]:Go1 (fn 440 [.string s] K cs) (s.size≤100000000000∧∀v e:Int,K (.tuple ⟨[.int .i64 v,.int .i64 e]⟩) cs):=⟨fun⟨hz,h⟩=>f440 (by
 unfold s440
 refine go ⟨fun _=>h _ _,fun _=>⟨hz,fun b hb=>⟨fun _=>h _ _,fun c1=> ?_⟩⟩⟩
 have hb:b=true:=by simpa using c1
 obtain⟨h0,h1⟩:=‹b=true→_› hb
 have hd:numOk (Lib.parseIntB 64 s.data.toList)=true:=int_ok (fun e=>by have:=bl_length s;unfold bl at this;rw [e]at this;simp at this;omega) fun c hc=>by
  obtain⟨k,hk,e⟩:=List.mem_iff_getElem.1 hc
  have:=h1 k (by have:=bl_length s;unfold bl at this;omega)
  unfold cAt bl at this
  rw [List.getD_eq_getElem?_getD,List.getElem?_eq_getElem hk]at this
  rw [←e];exact this
 refine c454t g (by omega) hd (fun v=> ?_) (fun v p=> ?_)
 ·refine go ?_
  repeat' (first | apply And.intro | intro _)
  all_goals first
   | exact h _ _
   | (exact absurd ‹false=true› (by decide))
 ·refine go ?_
  repeat' (first | apply And.intro | intro _)
  all_goals exact h _ _)⟩
instance c427 {s:ByteArray} {m:Int} [g:Glob cs]:Go1 (fn 427 [.string s,.int .i64 m] K cs) (s.size≤100000000000∧∀v e:Int,K (.tuple ⟨[.int .i64 v,.int .i64 e]⟩) cs):=⟨fun⟨hz,h⟩=>f427 (by
 unfold s427
 refine go ⟨hz,fun v e=> ?_⟩
 repeat' (first | apply And.intro | intro _)
 all_goals exact h _ _)⟩
end
end Go.Proofs.YtbjlfobjngogkaaGreatDoor
namespace Go.Proofs.YtbjlfobjngogkaaGreatDoor
open Go Go.MapKept
set_option synthInstance.maxSize 100000
set_option synthInstance.maxHeartbeats 1000000
set_option maxRecDepth 100000
structure MpS where
 es:Array MapEntry
 clk:Nat
 st:Stamped es clk
 ks:∀x∈es.toList,∃s,x.key= .string s
 vs:∀x∈es.toList,∃n,x.val= .int .i64 n
def mpsC (r:Nat) (M:MpS):Chunk:=mp r M.es M.clk
theorem MpS.keys (M:MpS):∀x∈M.es.toList,IsKey .string x.key:=fun x hx=>by
 obtain⟨s,e⟩:=M.ks x hx
 rw [e];exact trivial
theorem und423:∃kt e,Tryz.prog.underlying 423=some (.map kt e)∧Tryz.prog.underlying kt=some .string∧zeroT e=some (.int .i64 0):=⟨9,3,Tryz.underlying423,Tryz.underlying9,by kernel_rfl⟩
section
variable {cs:St} {r:Nat} {M:MpS} {put:Chunk→St} {K:Value→SP} {s:ByteArray}
instance mpsLook [o:Ob mpsC cs r M put]:Go1 (qy (Instr.lookup 423 (.map (some r)) (.string s) true) K cs) (∀(n:Int) (b:Bool),K (.tuple ⟨[.int .i64 n,.bool b]⟩) cs):=⟨fun h=>by
 obtain⟨i,hi,_⟩:=o.h
 obtain⟨kt,e,h1,h2,h3⟩:=und423
 have hk:IsKey .string (.string s):=trivial
 rcases findNow_spec hk M.es.toList 0 M.keys with ⟨h4,_⟩ | ⟨j,e',h4,h5,h6⟩
 ·refine⟨_,fun E w hw=> ?_,h 0 false⟩
  have hb:=hw.map hi
  simp [Instr.lookup,run_under h1,Go.MapKept.run_getObj_map hb,run_checkKey h2 hk,run_findKey h2 h4,run_zero h3,Result.andThen]
 ·obtain⟨n,hn⟩:=M.vs e' (List.mem_of_getElem? h5)
  rw [hn]at h4
  refine⟨_,fun E w hw=> ?_,h n true⟩
  have hb:=hw.map hi
  simp [Instr.lookup,run_under h1,Go.MapKept.run_getObj_map hb,run_checkKey h2 hk,run_findKey h2 h4,Result.andThen]⟩
instance mpsSet [o:Ob mpsC cs r M put] {x:Int} {K:SP}:Go1 (sm (do Instr.mapUpdate 423 (.map (some r)) (.string s) (.int .i64 x);pure undef) (fun _=>K) cs) (∀M':MpS,K (put (mpsC r M'))):=⟨fun h=>by
 obtain⟨i,hi,hp⟩:=o.h
 obtain⟨kt,e,h1,h2,h3⟩:=und423
 have hk:IsKey .string (.string s):=trivial
 refine⟨fun E w hw=> ?_⟩
 have hb:=hw.map hi
 rcases findNow_spec hk M.es.toList 0 M.keys with ⟨h4,h5⟩ | ⟨j,e',h4,h5,h6⟩
 ·let M':MpS:=⟨M.es.push {key:= .string s,val:= .int .i64 x,born:=M.clk},M.clk+1,stamped_push M.st h5,fun y hy=>by
   simp only [Array.toList_push,List.mem_append,List.mem_singleton]at hy
   rcases hy with hy | rfl
   ·exact M.ks y hy
   ·exact⟨s,rfl⟩,fun y hy=>by
   simp only [Array.toList_push,List.mem_append,List.mem_singleton]at hy
   rcases hy with hy | rfl
   ·exact M.vs y hy
   ·exact⟨x,rfl⟩⟩
  have:=h M'
  rw [hp]at this
  refine⟨undef,_,_,?_,hw.setMap hi _ _,this⟩
  simp [Instr.mapUpdate,run_under h1,Go.MapKept.run_getObj_map hb,run_checkKey h2 hk,run_findKey h2 h4,Go.MapKept.run_setObj_map _ hb,Result.andThen,M']
 ·have hj:M.es[j]? =some e':=by simpa using h5
  have hkey:∀e1,M.es[j]? =some e1→({e1 with key:= .string s,val:= .int .i64 x}:MapEntry).key=e1.key:=fun e1 he1=>by rw [hj]at he1;cases he1;exact h6.symm
  have hmem:∀y∈(M.es.modify j fun e1=>{e1 with key:= .string s,val:= .int .i64 x}).toList,y∈M.es.toList∨(y.key= .string s∧y.val= .int .i64 x):=fun y hy=>by
   rw [Array.toList_modify,modify_list]at hy
   have:M.es.toList[j]? =some e':=h5
   rw [this]at hy
   rcases List.mem_or_eq_of_mem_set hy with hy | rfl
   ·exact .inl hy
   ·exact .inr ⟨rfl,rfl⟩
  let M':MpS:=⟨M.es.modify j fun e1=>{e1 with key:= .string s,val:= .int .i64 x},M.clk,stamped_modify M.st _ _ (fun _ _=>rfl) (fun e1 _ he1=>hkey e1 he1),fun y hy=>by
   rcases hmem y hy with hy | hy
   ·exact M.ks y hy
   ·exact⟨s,hy.1⟩,fun y hy=>by
   rcases hmem y hy with hy | hy
   ·exact M.vs y hy
   ·exact⟨x,hy.2⟩⟩
  have:=h M'
  rw [hp]at this
  refine⟨undef,_,_,?_,hw.setMap hi _ _,this⟩
  simp [Instr.mapUpdate,run_under h1,Go.MapKept.run_getObj_map hb,run_checkKey h2 hk,run_findKey h2 h4,hj,h6,run_keyThatStays hk,Go.MapKept.run_setObj_map _ hb,Result.andThen,M']⟩
instance mpsNew:Go1 (sm (Instr.makeMap 423 none) K cs) (∀(r:Nat) (M:MpS),K (.map (some r)) (mpsC r M::cs)):=⟨fun h=>makeMap_at fun r hm=>h r ⟨#[],0,stamped_empty 0,(fun x hx=>nomatch hx),(fun x hx=>nomatch hx)⟩⟩
end
end Go.Proofs.YtbjlfobjngogkaaGreatDoor
namespace Go.Proofs.YtbjlfobjngogkaaGreatDoor
open Go
set_option synthInstance.maxSize 100000
set_option synthInstance.maxHeartbeats 1000000
set_option maxRecDepth 100000
structure OpX where
 o:OpM
 a:Option Addr
 c:Nat
 ch:Chunk
 row:Row 146 2 a o.arms.length c encArm o.arms ch
 fit:o.text.size≤1200∧o.arms.length≤8∧∀m∈o.arms,m.pat.size≤1200
@[reducible] def OpX.v (x:OpX):OpV:=(x.o,x.a,x.o.arms.length,x.c)
def opsC (l:List OpX):Chunk:=l.flatMap OpX.ch
structure UseM where
 name:ByteArray
 line:Int
 col:Int
 op:Int
 how:Int
@[reducible] def encUse:Enc UseM 5:=⟨fun x=>[.string x.name,.int .i64 x.line,.int .i64 x.col,.int .i64 x.op,.int .i64 x.how],by omega,fun _=>rfl⟩
structure PsB where
 name:ByteArray
 dl:Int
 jumps:Int
 oa:Option Addr
 oc:Nat
 och:Chunk
 ops:List OpX
 lr:Nat
 lm:MpS
 ua:Option Addr
 uc:Nat
 uch:Chunk
 uses:List UseM
 head:Bool
 opn:Bool
 t1:Bool
 t2:Bool
 line:Int
 wa:Option Addr
 wc:Nat
 wch:Chunk
 words:List WordM
 width:Int
 orow:Row 97 7 oa ops.length oc encOp (ops.map OpX.v) och
 urow:Row 477 5 ua uses.length uc encUse uses uch
 wrow:Row 472 3 wa words.length wc encWd words wch
 nf:name.size≤1200
 wf:∀w∈words,w.text.size≤1200
 wl:words.length≤1200
 ol:ops.length≤100000
 ul:uses.length≤100000
 op1:opn=true→0<ops.length
 us:∀u∈uses,∃k:Nat,u.op=k∧∃x,ops[k]? =some x∧(u.how= -1∨u.how= -2∨u.how= -3∨(0≤u.how∧u.how<x.o.arms.length))
structure Ps where
 B:PsB
 next:Nat
 s1:Int
 s2:Int
 bad:Int
 nl:next≤B.words.length
@[reducible] def psCells (x:Ps):List Value:=[.string x.B.name,.int .i64 x.B.dl,.int .i64 x.B.jumps,.slice x.B.oa x.B.ops.length x.B.oc,.map (some x.B.lr),.slice x.B.ua x.B.uses.length x.B.uc,.bool x.B.head,.bool x.B.opn,.bool x.B.t1,.bool x.B.t2,.int .i64 x.B.line,.slice x.B.wa x.B.words.length x.B.wc,.int .i64 x.B.width,.int .i64 x.next,.int .i64 x.s1,.int .i64 x.s2,.int .i64 x.bad]
abbrev psParts (b:Nat) (x:Ps):St:=[bk b 428 (psCells x),x.B.och,opsC x.B.ops,mpsC x.B.lr x.B.lm,x.B.uch,x.B.wch]
def psC (b:Nat) (x:Ps):Chunk:=(psParts b x).flatten
theorem psShut {b:Nat} {x:Ps} {F:St}:Imp (psParts b x++F) (psC b x::F):=Imp.of_sub (l:=[]) (by simp [psC,psParts])
theorem psLay {b:Nat} {x:Ps} {F:St}:Imp (psC b x::F) (psParts b x++F):=Imp.of_sub (l:=[]) (by simp [psC,psParts])
theorem psDone {b:Nat} (x:Ps) {K:Value→SP} {v:Value} {put:Chunk→St} {F c:St} (hi:Imp c (psParts b x++F)) (h:K v (put (psC b x))):∃parts',Imp c (parts'++F)∧K v (put parts'.flatten):=⟨_,hi,h⟩
class IxP (t:Nat) (v:Value) (i:Int) (p:Addr):Prop where
 h:∀E w,Hs E w []→(Instr.indexAt t v (.int .i64 i)).run Tryz.prog w= .ok (.pointer (some p)) w
theorem hs_none {E w:World} {cs:St} (h:Hs E w cs):Hs E w []:=(Imp.of_sub (l:=cs.flatten) (by simp):Imp cs []) E w h
instance {t:Nat} {v:Value} {i:Int} {p:Addr} {cs:St} {K:SP} [r:IxP t v i p]:Go1 (stb (Instr.indexAt t v (.int .i64 i)) (.pointer (some p)) K cs) (K cs):=⟨fun h=>⟨fun E w hw=>r.h E w (hs_none hw),h⟩⟩
instance (priority:=50) rdnThere {cs:St} {d:Chunk} {p:Addr} {n:Nat} {l:List Value} [r:RdN cs p n l]:RdN (d::cs) p n l:=⟨fun t ht E w hw=>r.h t ht E w (hs_tail hw)⟩
instance (priority:=50) rdvThere {cs:St} {d:Chunk} {p:Addr} {v:Value} [r:RdV cs p v]:RdV (d::cs) p v:=⟨fun E w hw=>r.h E w (hs_tail hw)⟩
theorem rwIx {α:Type} {t T sz by_ n c:Nat} {a:Option Addr} {i:Int} {cs:St} {e:Enc α sz} {l:List α} {K:Addr→SP} [p:SlcT t T sz by_] [r:Rw T sz cs a n c e l] (hi:0≤i∧i<n)
  (h:∀x q,l[i.toNat]? =some x→RdN cs q sz (e.f x)→IxP t (.slice a n c) i q→K q cs):ix t (.slice a n c) i K cs:=by
 obtain⟨x,b,o,T,cells,hx,rfl,hr,hc⟩:=r.h.elem hi
 refine ix_at hi.1 hi.2 ?_ (slc_ix p)
 have h0:=e.pos
 have hlen:o+i.toNat*sz+sz≤cells.length:=by
  have h1:(e.f x)[sz-1]? =some ((e.f x)[sz-1]'(by rw [e.len];omega)):=List.getElem?_eq_getElem _
  have:=lt_of_get (hc _ _ h1)
  omega
 have he:(cells.drop (o+i.toNat*sz)).take sz=e.f x:=by
  apply List.ext_getElem?
  intro j
  by_cases hj:j<sz
  ·rw [List.getElem?_take_of_lt hj,List.getElem?_drop]
   have h1:(e.f x)[j]? =some ((e.f x)[j]'(by rw [e.len];omega)):=List.getElem?_eq_getElem _
   rw [hc _ _ h1,h1]
  ·rw [List.getElem?_eq_none (by simp;omega),List.getElem?_eq_none (by rw [e.len];omega)]
 refine h x _ hx ⟨fun t ht E w hw=> ?_⟩ ⟨fun E w hw=> ?_⟩
 ·have:=run_loadN ht (fun o=>hr.cell hw o) hlen
  rw [he]at this
  exact this
 ·have:= @ix_at [] t sz b o n c i (fun p _=>p=ad b (o+i.toNat*sz)) hi.1 hi.2 rfl (slc_ix p)
  obtain⟨v,h1,q,rfl,h2⟩:=this
  rw [h1 E w hw,h2]
section
variable {cs:St} {b:Nat} {x:Ps} {put:Chunk→St} {K:Value→SP}
instance c316 [o:Ob psC cs b x put] {n e:Int}:Go1 (fn 316 [.pointer (some (ad b 0)),.int .i64 n,.int .i64 e] K cs) (∀x':Ps,x'.B=x.B→x'.next=x.next→(e≠0→x'.bad≠0)→K undef (put (psC b x'))):=⟨fun h=>o.fn (psParts b x) rfl fun F=>f316 (by
 unfold s316
 simp only [psParts,List.cons_append,List.nil_append]
 refine go ⟨fun c0=> ?_,fun c0=> ?_⟩
 ·exact psDone {x with s1:=x.B.line,s2:=w64 (n+1),bad:=e} (by dsimp only [psParts,psCells,List.cons_append,List.nil_append];exact drp) (h _ rfl rfl fun he=>he)
 ·exact psDone x (by dsimp only [psParts,psCells,List.cons_append,List.nil_append];exact drp) (h _ rfl rfl fun _=>by simpa using c0))⟩
instance c408 [o:Ob psC cs b x put] {q:Bool}:Go1 (fn 408 [.pointer (some (ad b 0)),.bool q] K cs) (∀(x':Ps) (w:WordM) (ok:Bool),x'.B=x.B→w.text.size≤1200→K (.tuple ⟨[.agg ⟨encWd.f w⟩,.bool ok]⟩) (put (psC b x'))):=⟨fun h=>o.fn (psParts b x) rfl fun F=>f408 (by
 have wr:=x.B.wrow
 have hnl:=x.nl
 have hwl:=x.B.wl
 have zero:∀(x':Ps) {c:St},x'.B=x.B→Imp c (psParts b x'++F)→∃parts',Imp c (parts'++F)∧K (.tuple ⟨[.agg ⟨[.string (bs []),.bool false,.int .i64 0]⟩,.bool false]⟩) (put parts'.flatten):=fun x' c hB hi=>psDone x' hi (h x' ⟨bs [],false,0⟩ false hB (Nat.zero_le _))
 unfold s408
 simp only [psParts,List.cons_append,List.nil_append]at zero ⊢
 refine go fun b1=>⟨fun c0=>zero x rfl (by dsimp only [psCells];exact drp),fun c0=>⟨fun c1=> ?_,fun c1=> ?_⟩⟩
 ·refine fn_imp (cs':=psC b x::bk b1 472 [.string .empty,.bool false,.int .i64 0]::F) (Imp.trans (b:=psParts b x++(bk b1 472 [.string .empty,.bool false,.int .i64 0]::F)) (by dsimp only [psParts,psCells,List.cons_append,List.nil_append];exact drp) psShut) ?_
  refine go fun x' hB hn _=> ?_
  exact zero x' hB (Imp.trans drp (psLay (x:=x') (F:=F)))
 ·simp only [decide_eq_false_iff_not]at c1
  have hlt:x.next<x.B.words.length:=by omega
  refine rwIx (i:=(x.next:Int)) ⟨by omega,by omega⟩ fun w p1 hw r1 r2=> ?_
  have r1:=r1
  have r2:=r2
  have hwt:w.text.size≤1200:=x.B.wf w (List.mem_of_getElem? hw)
  let x1:Ps:={x with next:=x.next+1,nl:=by omega}
  have e1:w64 ((x.next:Int)+1)=(x1.next:Int):=by rw [w64_id (by omega)];rfl
  refine go fun b3=>⟨fun _ c=>∃x':Ps,x'.B=x.B∧Imp c (bk b3 472 (encWd.f w)::bk b1 472 [.string .empty,.bool false,.int .i64 0]::(psParts b x'++F)),fun l c hc=> ?_,?_⟩
  ·obtain⟨x',hB,hi⟩:=hc
   refine⟨_,hi,?_⟩
   simp only [psParts,List.cons_append,List.nil_append]
   refine go ?_
   exact psDone x' (by dsimp only [psParts,psCells,List.cons_append,List.nil_append];exact drp) (h x' w _ hB hwt)
  ·refine go ⟨fun c2=> ?_,fun c2=> ?_⟩
   ·rw [e1]
    refine fn_imp (cs':=psC b x1::bk b3 472 (encWd.f w)::bk b1 472 [.string .empty,.bool false,.int .i64 0]::F) (Imp.trans (b:=psParts b x1++(bk b3 472 (encWd.f w)::bk b1 472 [.string .empty,.bool false,.int .i64 0]::F)) (by dsimp only [psParts,psCells,List.cons_append,List.nil_append,x1];exact drp) psShut) ?_
    refine go fun x' hB hn _=> ?_
    exact⟨x',hB,Imp.trans (psLay (x:=x') (F:=bk b3 472 (encWd.f w)::bk b1 472 [.string .empty,.bool false,.int .i64 0]::F)) (by dsimp only [psParts,psCells,List.cons_append,List.nil_append];exact drp)⟩
   ·rw [e1]
    exact⟨x1,rfl,by dsimp only [psParts,psCells,List.cons_append,List.nil_append,x1];exact drp⟩)⟩
end
theorem Ob.fnG {X:Type} {C:Nat→X→Chunk} {cs:St} {b:Nat} {x:X} {put:Chunk→St} (o:Ob C cs b x put) (gl:Glob (put [])) {g:FuncId} {args:List Value} {K:Value→SP} (parts:St) (hp:parts.flatten=C b x)
  (h:∀F,Glob F→Go.Proofs.YtbjlfobjngogkaaGreatDoor.fn g args (fun v c=>∃parts',Imp c (parts'++F)∧K v (put parts'.flatten)) (parts++F)):Go.Proofs.YtbjlfobjngogkaaGreatDoor.fn g args K cs:=by
 obtain⟨i,h1,h2⟩:=o.h
 have gF:Glob (cs.set i []):=by rw [←h2];exact gl
 refine fn_focus i parts (by rw [hp];exact h1) ?_
 refine⟨(h (cs.set i []) gF).enters,fun E w hw=>Calls.mono ((h (cs.set i []) gF).calls E w hw) ?_⟩
 rintro e w' ⟨v,c1,he,hw1,parts',g1,g2⟩
 exact⟨v,c1,he,hw1,[],parts',g1,by rw [h2]at g2;exact g2⟩
theorem Ob.fn1G {X:Type} {C:Nat→X→Chunk} {cs:St} {b:Nat} {x:X} {put:Chunk→St} (o:Ob C cs b x put) (gl:Glob (put [])) {g:FuncId} {args:List Value} {K:Value→SP} (p1:Chunk) (hp:p1=C b x)
  (h:∀F,Glob F→Go.Proofs.YtbjlfobjngogkaaGreatDoor.fn g args (fun v c=>∃q1,Imp c (q1::F)∧K v (put q1)) (p1::F)):Go.Proofs.YtbjlfobjngogkaaGreatDoor.fn g args K cs:=
 o.fnG gl [p1] (by simp [hp]) fun F gF=>fn_weak (fun _ _ ⟨q1,h1,h2⟩=>⟨[q1],h1,by simpa using h2⟩) (h F gF)
section
variable {cs:St} {b:Nat} {x:Ps} {put:Chunk→St} {K:Value→SP}
instance c406 [o:Ob psC cs b x put]:Go1 (fn 406 [.pointer (some (ad b 0))] K cs) (∀(x':Ps) (w:WordM),x'.B=x.B→w.text.size≤1200→K (.agg ⟨encWd.f w⟩) (put (psC b x'))):=⟨fun h=>o.fn1 (psC b x) rfl fun F=>f406 (by
 unfold s406
 refine go fun b1 x1 w ok hB hw b2=>⟨fun _=>⟨fun _ x2 hB2 _ _=> ?_,fun _=> ?_⟩,fun _=> ?_⟩
 ·exact⟨_,drp,h x2 w (hB2.trans hB) hw⟩
 ·exact⟨_,drp,h x1 w hB hw⟩
 ·exact⟨_,drp,h x1 w hB hw⟩)⟩
instance c409 [o:Ob psC cs b x put] [g:Glob (put [])] {w:WordM} {m n:Int}:Go1 (fn 409 [.pointer (some (ad b 0)),.agg ⟨encWd.f w⟩,.int .i64 m,.int .i64 n] K cs) (w.text.size≤1200∧∀(x':Ps) (v:Int),x'.B=x.B→K (.int .i64 v) (put (psC b x'))):=⟨fun⟨hw,h⟩=>o.fn1G g (psC b x) rfl fun F gf=>f409 (by
 have gf:=gf
 unfold s409
 have h0:∀x':Ps,x'.B=x.B→∀v:Int,∀{c:St},Imp c (psC b x'::F)→∃q1,Imp c (q1::F)∧K (.int .i64 v) (put q1):=fun x' hB v c hi=>⟨_,hi,h x' v hB⟩
 refine goj fun b1=>⟨Nat.le_trans hw (by decide),fun v e=> ?_⟩
 repeat' (first | apply And.intro | intro _)
 all_goals first
  | exact h0 _ ‹_› _ drp
  | exact h0 _ rfl _ drp)⟩
instance c407 [o:Ob psC cs b x put] [g:Glob (put [])] {m:Int} {q:Bool}:Go1 (fn 407 [.pointer (some (ad b 0)),.int .i64 m,.bool q] K cs) (∀(x':Ps) (v:Int),x'.B=x.B→K (.int .i64 v) (put (psC b x'))):=⟨fun h=>o.fn1G g (psC b x) rfl fun F gf=>f407 (by
 have gf:=gf
 unfold s407
 have h0:∀x':Ps,x'.B=x.B→∀v:Int,∀{c:St},Imp c (psC b x'::F)→∃q1,Imp c (q1::F)∧K (.int .i64 v) (put q1):=fun x' hB v c hi=>⟨_,hi,h x' v hB⟩
 refine go fun x1 w ok hB hw b1=> ?_
 repeat' (first | apply And.intro | intro _)
 all_goals first
  | assumption
  | exact h0 _ (‹_=x1.B›.trans hB) _ drp
  | exact h0 _ hB _ drp)⟩
instance c410 [o:Ob psC cs b x put]:Go1 (fn 410 [.pointer (some (ad b 0))] K cs) (∀(x':Ps) (s:ByteArray),x'.B=x.B→s.size≤1200→K (.string s) (put (psC b x'))):=⟨fun h=>o.fn1 (psC b x) rfl fun F=>f410 (by
 unfold s410
 have h0:∀x':Ps,x'.B=x.B→∀v:ByteArray,v.size≤1200→∀{c:St},Imp c (psC b x'::F)→∃q1,Imp c (q1::F)∧K (.string v) (put q1):=fun x' hB v hv c hi=>⟨_,hi,h x' v hB hv⟩
 have hchk:∀l,∃i e:Int,checkV l= .tuple ⟨[.int .i64 i,.int .i64 e]⟩:=fun l=>by unfold checkV;split <;>exact⟨_,_,rfl⟩
 refine go fun x1 w ok hB hw b1=>⟨fun _=>h0 _ hB _ (Nat.zero_le _) drp,fun _=>⟨fun _ x2 hB2 _ _=>h0 _ (hB2.trans hB) _ (Nat.zero_le _) drp,fun _=>⟨Nat.le_trans hw (by decide),?_⟩⟩⟩
 obtain⟨i,e,he⟩:=hchk (bl w.text)
 rw [he]
 refine go ⟨fun _ x2 hB2 _ _=>h0 _ (hB2.trans hB) _ hw drp,fun _=>h0 _ hB _ hw drp⟩)⟩
instance c412 [o:Ob psC cs b x put]:Go1 (fn 412 [.pointer (some (ad b 0))] K cs) (∀(x':Ps) (s:ByteArray),x'.B=x.B→s.size≤1200→K (.string s) (put (psC b x'))):=⟨fun h=>o.fn1 (psC b x) rfl fun F=>f412 (by
 unfold s412
 have h0:∀x':Ps,x'.B=x.B→∀v:ByteArray,v.size≤1200→∀{c:St},Imp c (psC b x'::F)→∃q1,Imp c (q1::F)∧K (.string v) (put q1):=fun x' hB v hv c hi=>⟨_,hi,h x' v hB hv⟩
 refine go fun x1 w ok hB hw b1=> ?_
 repeat' (first | apply And.intro | intro _)
 all_goals first
  | exact h0 _ (‹_=x1.B›.trans hB) _ hw drp
  | exact h0 _ hB _ hw drp)⟩
end
def LastAt (B:PsB) (q:Addr):Prop:=∃rb o,B.oa=some (ad rb o)∧0<B.ops.length∧q=ad rb (o+(B.ops.length-1)*7)
theorem opsC_app (l m:List OpX):opsC (l++m)=opsC l++opsC m:=List.flatMap_append
section
variable {cs:St} {b:Nat} {x:Ps} {put:Chunk→St} {K:Value→SP}
instance c413 [o:Ob psC cs b x put] {kd t e:Int}:Go1 (fn 413 [.pointer (some (ad b 0)),.agg ⟨[.int .i64 kd,.string (bs []),.int .i64 0,.int .i64 0,.slice none 0 0,.int .i64 t,.int .i64 e]⟩] K cs)
  (x.B.ops.length<100000∧∀(x':Ps) (q:Addr),x'.B.uses.length=x.B.uses.length→x'.B.ops.length=x.B.ops.length+1→LastAt x'.B q→K (.pointer (some q)) (put (psC b x'))):=⟨fun⟨hlen,h⟩=>o.fn (psParts b x) rfl fun F=>f413 (by
 have hr:=x.B.orow
 unfold s413
 simp only [psParts,List.cons_append,List.nil_append]
 refine go fun b1=>⟨fun _ c=>∃x':Ps,x'.B=x.B∧Imp c (bk b1 97 [.int .i64 kd,.string (bs []),.int .i64 0,.int .i64 0,.slice none 0 0,.int .i64 t,.int .i64 e]::(psParts b x'++F)),fun l c hc=> ?_,?_⟩
 ·obtain⟨x',hB,hi⟩:=hc
  refine⟨_,hi,?_⟩
  simp only [psParts,List.cons_append,List.nil_append]
  have r':Row 97 7 x'.B.oa x'.B.ops.length x'.B.oc encOp (x'.B.ops.map OpX.v) x'.B.och:=x'.B.orow
  have hl':x'.B.ops.length<100000:=by rw [hB];exact hlen
  have r':=r'
  refine go ⟨by decide,fun b2=>⟨⟨by omega,by omega⟩,(⟨kd,bs [],0,0,[],t,e⟩,none,0,0),rfl,fun a' c' ch' r2=> ?_⟩⟩
  let nx:OpX:=⟨⟨kd,bs [],0,0,[],t,e⟩,none,0,[],⟨Sl.nil⟩,⟨Nat.zero_le _,Nat.zero_le _,fun m hm=>nomatch hm⟩⟩
  have r3:Row 97 7 a' (x'.B.ops++[nx]).length c' encOp ((x'.B.ops++[nx]).map OpX.v) ch':=by
   have e1:(x'.B.ops++[nx]).map OpX.v=x'.B.ops.map OpX.v++[(⟨kd,bs [],0,0,[],t,e⟩,none,0,0)]:=by simp [nx,OpX.v]
   rw [e1,List.length_append]
   exact r2
  have hus:∀u∈x'.B.uses,∃k:Nat,u.op=k∧∃y,(x'.B.ops++[nx])[k]? =some y∧(u.how= -1∨u.how= -2∨u.how= -3∨(0≤u.how∧u.how<y.o.arms.length)):=fun u hu=>by
   obtain⟨k,e1,y,e2,e3⟩:=x'.B.us u hu
   exact⟨k,e1,y,by rw [List.getElem?_append_left (lt_of_get e2)];exact e2,e3⟩
  let B':PsB:={x'.B with ops:=x'.B.ops++[nx],oa:=a',oc:=c',och:=ch',orow:=r3,ol:=by simp;omega,op1:=fun _=>by simp,us:=hus}
  obtain⟨rb,o',X,Z,ha,ho,_,_⟩:=r3.split (k:=x'.B.ops.length) (by simp)
  subst ha
  have e4:(w64 ((x'.B.ops.length+1:Nat)-1:Int)).toNat=x'.B.ops.length:=by rw [w64_id (by omega)];omega
  refine ix_at (sz:=7) (by rw [w64_id (by omega)];omega) (by rw [w64_id (by omega)];omega) ?_
  rw [e4]
  refine psDone {x' with B:=B',nl:=x'.nl} ?_ (h _ _ (by dsimp only [B'];rw [hB]) (by dsimp only [B'];rw [hB];simp) ⟨rb,o',rfl,by simp [B'],by simp [B']⟩)
  have e5:(x'.B.ops.length+1)=(x'.B.ops++[nx]).length:=by simp
  have e6:opsC (x'.B.ops++[nx])=opsC x'.B.ops:=by rw [opsC_app];simp [opsC,nx]
  dsimp only [psParts,psCells,List.cons_append,List.nil_append,B']
  rw [e6,←e5]
  exact drp
 ·refine go ⟨fun c2=> ?_,fun c2=> ?_⟩
  ·refine fn_imp (cs':=psC b x::bk b1 97 [.int .i64 kd,.string (bs []),.int .i64 0,.int .i64 0,.slice none 0 0,.int .i64 t,.int .i64 e]::F) (Imp.trans (b:=psParts b x++(bk b1 97 [.int .i64 kd,.string (bs []),.int .i64 0,.int .i64 0,.slice none 0 0,.int .i64 t,.int .i64 e]::F)) (by dsimp only [psParts,psCells,List.cons_append,List.nil_append];exact drp) psShut) ?_
   refine go fun x' hB hn _=> ?_
   exact⟨x',hB,Imp.trans (psLay (x:=x') (F:=bk b1 97 [.int .i64 kd,.string (bs []),.int .i64 0,.int .i64 0,.slice none 0 0,.int .i64 t,.int .i64 e]::F)) (by dsimp only [psParts,psCells,List.cons_append,List.nil_append];exact drp)⟩
  ·exact⟨x,rfl,by dsimp only [psParts,psCells,List.cons_append,List.nil_append];exact drp⟩)⟩
end
instance bd477:BdT 477 [(0,1),(1,2),(3,1),(4,1)] [.string .empty,.int .i64 0,.int .i64 0,.int .i64 0,.int .i64 0]:=⟨by kernel_rfl⟩
instance:StrF 472 [(true,9,0),(true,4,1),(true,3,2)]:=⟨by kernel_rfl⟩
instance (priority:=2000) naAdd0 {b j:Nat}:Na (((ad b 0).add 0).add j) b j:=⟨by rw [add_ad,add_ad];simp⟩
instance psRd {b:Nat} {x:Ps} {cs:St}:RdB (psC b x::cs) b 428 (psCells x):=⟨by
 have e:(psC b x::cs).flatten=(psParts b x++cs).flatten:=by simp [psC]
 refine⟨(0,0),?_⟩
 rw [e]
 simp [psParts,bk]⟩
theorem psWords {b:Nat} {x:Ps} {cs:St}:Rw 472 3 (psC b x::cs) x.B.wa x.B.words.length x.B.wc encWd x.B.words:=⟨by
 have r:Row 472 3 x.B.wa x.B.words.length x.B.wc encWd x.B.words x.B.wch:=x.B.wrow
 have r:=r
 have h:Rw 472 3 (psParts b x++cs) x.B.wa x.B.words.length x.B.wc encWd x.B.words:=by simp only [psParts,List.cons_append,List.nil_append];infer_instance
 have e:(psC b x::cs).flatten=(psParts b x++cs).flatten:=by simp [psC]
 obtain⟨h1,h2,h3⟩:=h.h
 refine⟨h1,h2,fun hn=> ?_⟩
 obtain⟨b',o',T,cells,q1,q2,q3⟩:=h3 hn
 exact⟨b',o',T,cells,q1,q2.mono fun x hx=>by rw [e];exact hx,q3⟩⟩
def Gr (B B':PsB):Prop:=B'.ops.length≤B.ops.length+1∧B'.uses.length≤B.uses.length+1
theorem gr_same {B B':PsB} (h:B'=B):Gr B B':=by subst h;exact⟨by omega,by omega⟩
theorem psEnd {b:Nat} (x:Ps) {K:Value→SP} {v:Value} {put:Chunk→St} {F c:St} (hi:Imp c (psParts b x++F)) (h:K v (put (psC b x))):∃q1,Imp c (q1::F)∧K v (put q1):=⟨_,hi.trans psShut,h⟩
theorem psCall {b:Nat} {x2:Ps} {g:FuncId} {args:List Value} {K:Value→SP} {cs F:St} (hi:Imp cs (psParts b x2++F)) (h:fn g args (Up K) (psC b x2::F)):fn g args K cs:=fn_up (hi.trans psShut) h
section
variable {cs:St} {b:Nat} {x:Ps} {put:Chunk→St} {K:Value→SP}
instance c411 [o:Ob psC cs b x put] {how:Int}:Go1 (fn 411 [.pointer (some (ad b 0)),.int .i64 how] K cs)
  ((x.B.uses.length<100000∧∃k y,k+1=x.B.ops.length∧x.B.ops[k]? =some y∧(how= -1∨how= -2∨how= -3∨(0≤how∧how<y.o.arms.length)))∧∀x':Ps,x'.B.ops.length=x.B.ops.length→x'.B.uses.length=x.B.uses.length+1→K undef (put (psC b x'))):=⟨fun⟨⟨hlen,k,y,hk,hy,hhow⟩,h⟩=>o.fn1 (psC b x) rfl fun F=>f411 (by
 unfold s411
 refine fn_up (Imp.refl _) (go fun x1 w hB hw=>⟨_,psLay,?_⟩)
 simp only [psParts,List.cons_append,List.nil_append]
 have r:=x1.B.urow
 have r:=r
 have hlen1:x1.B.uses.length<100000:=by rw [hB];exact hlen
 refine go fun b1=>⟨by decide,fun b2=>⟨⟨by omega,by omega⟩,⟨w.text,x1.B.line,w64 (w.at_+1),w64 ((x1.B.ops.length:Int)-1),how⟩,rfl,fun a' c' ch' r2=> ?_⟩⟩
 let nu:UseM:=⟨w.text,x1.B.line,w64 (w.at_+1),w64 ((x1.B.ops.length:Int)-1),how⟩
 have hus:∀u∈x1.B.uses++[nu],∃k:Nat,u.op=k∧∃y,x1.B.ops[k]? =some y∧(u.how= -1∨u.how= -2∨u.how= -3∨(0≤u.how∧u.how<y.o.arms.length)):=fun u hu=>by
  rcases List.mem_append.1 hu with hu | hu
  ·exact x1.B.us u hu
  ·rw [List.mem_singleton]at hu
   subst hu
   have hol:=x1.B.ol
   exact⟨k,by show w64 ((x1.B.ops.length:Int)-1)=k;rw [hB]at hol ⊢;rw [w64_id (by omega)];omega,y,by rw [hB];exact hy,hhow⟩
 have e1:x1.B.uses.length+1=(x1.B.uses++[nu]).length:=by simp
 have r3:Row 477 5 a' (x1.B.uses++[nu]).length c' encUse (x1.B.uses++[nu]) ch':=by rw [←e1];exact r2
 let B':PsB:={x1.B with uses:=x1.B.uses++[nu],ua:=a',uc:=c',uch:=ch',urow:=r3,ul:=by simp;omega,us:=hus}
 refine psEnd {x1 with B:=B',nl:=x1.nl} ?_ (h _ (by dsimp only [B'];rw [hB]) (by dsimp only [B'];rw [←e1,hB]))
 dsimp only [psParts,psCells,List.cons_append,List.nil_append,B']
 rw [←e1]
 exact drp)⟩
instance c382 [o:Ob psC cs b x put] [g:Glob (put [])]:Go1 (fn 382 [.pointer (some (ad b 0))] K cs) (∀x':Ps,Gr x.B x'.B→K undef (put (psC b x'))):=⟨fun h=>o.fnG g (psParts b x) rfl fun F gf=>f382 (by
 have gf:=gf
 unfold s382
 simp only [psParts,List.cons_append,List.nil_append]
 let x1:Ps:={x with B:={x.B with head:=true},nl:=x.nl}
 refine go ?_
 refine psCall (b:=b) (x2:=x1) (F:=F) (by dsimp only [psParts,psCells,List.cons_append,List.nil_append,x1];exact drp) ?_
 refine go fun x2 w hB hw=> ?_
 refine⟨psParts b x2++F,psLay,?_⟩
 simp only [psParts,List.cons_append,List.nil_append]
 let x3:Ps:={x2 with B:={x2.B with name:=w.text,nf:=hw},nl:=x2.nl}
 refine go ?_
 refine psCall (b:=b) (x2:=x3) (F:=F) (by dsimp only [psParts,psCells,List.cons_append,List.nil_append,x3];exact drp) ?_
 refine go fun x4 v hB4=> ?_
 refine⟨psParts b x4++F,psLay,?_⟩
 simp only [psParts,List.cons_append,List.nil_append]
 let x5:Ps:={x4 with B:={x4.B with dl:=v},nl:=x4.nl}
 refine go ?_
 refine psCall (b:=b) (x2:=x5) (F:=F) (by dsimp only [psParts,psCells,List.cons_append,List.nil_append,x5];exact drp) ?_
 refine go fun x6 w2 ok hB6 hw2=> ?_
 have hg:Gr x.B x6.B:=by
  rw [hB6]
  show Gr x.B {x4.B with dl:=v}
  rw [hB4]
  dsimp only [x3]
  rw [hB]
  exact⟨Nat.le_succ _,Nat.le_succ _⟩
 refine⟨psC b x6::F,Imp.refl _,?_⟩
 refine go fun b2=>⟨fun _=> ?_,fun _=>psDone x6 (Imp.trans drp psLay) (h x6 hg)⟩
 refine⟨hw2,fun x7 v7 hB7=> ?_⟩
 refine st_imp (cs':=psParts b x7++F) (Imp.trans drp psLay) ?_
 simp only [psParts,List.cons_append,List.nil_append]
 refine go (psDone {x7 with B:={x7.B with jumps:=v7},nl:=x7.nl} (by dsimp only [psParts,psCells,List.cons_append,List.nil_append];exact drp) (h _ ?_))
 dsimp only
 rw [hB7]
 exact hg)⟩
end
theorem opsC_at {l:List OpX} {k:Nat} {y:OpX} (h:l[k]? =some y):∃A C,opsC l=A++(y.ch++C)∧∀y':OpX,opsC (l.set k y')=A++(y'.ch++C):=by
 have hk:=lt_of_get h
 have hy:l[k]=y:=by rw [List.getElem?_eq_getElem hk]at h;exact Option.some.inj h
 refine⟨opsC (l.take k),opsC (l.drop (k+1)),?_,fun y'=> ?_⟩
 ·have e:l=l.take k++(l[k]::l.drop (k+1)):=by rw [←List.drop_eq_getElem_cons hk,List.take_append_drop]
  have e2:=congrArg opsC e
  rw [opsC_app,hy]at e2
  exact e2
 ·rw [List.set_eq_take_append_cons_drop,if_pos hk,opsC_app]
  rfl
theorem us_set {uses:List UseM} {ops:List OpX} {k:Nat} {y y':OpX} (hk:ops[k]? =some y) (hle:y.o.arms.length≤y'.o.arms.length)
  (us:∀u∈uses,∃k:Nat,u.op=k∧∃x,ops[k]? =some x∧(u.how= -1∨u.how= -2∨u.how= -3∨(0≤u.how∧u.how<x.o.arms.length))):
  ∀u∈uses,∃j:Nat,u.op=j∧∃x,(ops.set k y')[j]? =some x∧(u.how= -1∨u.how= -2∨u.how= -3∨(0≤u.how∧u.how<x.o.arms.length)):=fun u hu=>by
 obtain⟨j,e1,z,e2,e3⟩:=us u hu
 by_cases hj:k=j
 ·subst hj
  rw [e2]at hk;cases hk
  exact⟨k,e1,y',by rw [List.getElem?_set_self (lt_of_get e2)],by omega⟩
 ·exact⟨j,e1,z,by rw [List.getElem?_set_ne hj];exact e2,e3⟩
theorem psOp (x:Ps) (b:Nat) (F:St) {k:Nat} {y:OpX} (hk:x.B.ops[k]? =some y):∃rb o X Z R,x.B.oa=some (ad rb o)∧o+k*7=X.length∧
  Imp (psC b x::F) (bk b 428 (psCells x)::bk rb 97 (X++(opCells y.o y.a y.o.arms.length y.c++Z))::y.ch::R::mpsC x.B.lr x.B.lm::x.B.uch::x.B.wch::F)∧
  ∀y':OpX,y.o.arms.length≤y'.o.arms.length→∃x':Ps,x'.B.ops=x.B.ops.set k y'∧x'.B.uses=x.B.uses∧x'.B.oa=x.B.oa∧(x'.B.lr=x.B.lr∧x'.B.ua=x.B.ua∧x'.B.uc=x.B.uc)∧
   Imp (bk b 428 (psCells x)::bk rb 97 (X++(opCells y'.o y'.a y'.o.arms.length y'.c++Z))::y'.ch::R::mpsC x.B.lr x.B.lm::x.B.uch::x.B.wch::F) (psC b x'::F):=by
 have r:Row 97 7 x.B.oa x.B.ops.length x.B.oc encOp (x.B.ops.map OpX.v) x.B.och:=x.B.orow
 have hlt:=lt_of_get hk
 obtain⟨rb,o,X,Z,h1,h2,h3,h4⟩:=r.split (k:=k) (by simpa using hlt)
 obtain⟨A,C,h5,h6⟩:=opsC_at hk
 have hy:(x.B.ops.map OpX.v)[k]'(by simpa using hlt)=y.v:=by
  rw [List.getElem_map]
  rw [List.getElem?_eq_getElem hlt]at hk
  rw [Option.some.inj hk]
 rw [hy]at h3
 refine⟨rb,o,X,Z,A++C,h1,h2,?_,fun y' hle=> ?_⟩
 ·refine Imp.trans psLay ?_
  simp only [psParts,List.cons_append,List.nil_append,h5]
  rw [h3]
  refine Imp.of_sub (l:=[]) ?_
  simp only [List.append_nil,List.flatten_cons]
  refine List.Perm.append_left _ (List.Perm.append_left _ ?_)
  simp only [List.append_assoc]
  refine(List.perm_append_comm_assoc _ _ _).trans ?_
  exact List.Perm.refl _
 ·have r2:Row 97 7 x.B.oa (x.B.ops.set k y').length x.B.oc encOp ((x.B.ops.set k y').map OpX.v) (bk rb 97 (X++(encOp.f y'.v++Z))):=by
   rw [List.length_set,List.map_set]
   exact h4 y'.v
  let B':PsB:={x.B with ops:=x.B.ops.set k y',och:=_,orow:=r2,ol:=by rw [List.length_set];exact x.B.ol,op1:=fun he=>by rw [List.length_set];exact x.B.op1 he,us:=us_set hk hle x.B.us}
  refine⟨{x with B:=B',nl:=x.nl},rfl,rfl,rfl,⟨rfl,rfl,rfl⟩,?_⟩
  refine Imp.trans ?_ psShut
  have e1:psCells {x with B:=B',nl:=x.nl}=psCells x:=by dsimp only [psCells,B'];rw [List.length_set]
  simp only [psParts,List.cons_append,List.nil_append,e1]
  dsimp only [B']
  rw [h6 y']
  refine Imp.of_sub (l:=[]) ?_
  simp only [List.append_nil,List.flatten_cons]
  refine List.Perm.append_left _ (List.Perm.append_left _ ?_)
  simp only [List.append_assoc]
  exact(List.perm_append_comm_assoc _ _ _)
theorem psText {b:Nat} {x:Ps} {q:Addr} (hq:LastAt x.B q) {s:ByteArray} (hs:s.size≤1200) {K:SP} {F:St} (h:∀x':Ps,x'.B.ops.length=x.B.ops.length→x'.B.uses=x.B.uses→K (psC b x'::F)):st 9 (q.add 1) (.string s) K (psC b x::F):=by
 obtain⟨rb,o,ha,h0,rfl⟩:=hq
 have hk:x.B.ops[x.B.ops.length-1]? =some (x.B.ops[x.B.ops.length-1]'(by omega)):=List.getElem?_eq_getElem _
 generalize x.B.ops[x.B.ops.length-1]'(by omega)=y at hk
 obtain⟨rb',o',X,Z,R,h1,h2,h3,h4⟩:=psOp x b F hk
 rw [ha]at h1;cases h1
 refine st_imp h3 (st_up ?_)
 rw [h2]
 refine go ?_
 obtain⟨x',e1,e2,e3,e4,e5⟩:=h4 {y with o:={y.o with text:=s},row:=y.row,fit:=⟨hs,y.fit.2⟩} (Nat.le_refl _)
 exact⟨_,e5,h x' (by rw [e1,List.length_set]) e2⟩
theorem psN {b:Nat} {x:Ps} {q:Addr} (hq:LastAt x.B q) {n:Int} {K:SP} {F:St} (h:∀x':Ps,x'.B.ops.length=x.B.ops.length→x'.B.uses=x.B.uses→K (psC b x'::F)):st 2 (q.add 2) (.int .i64 n) K (psC b x::F):=by
 obtain⟨rb,o,ha,h0,rfl⟩:=hq
 have hk:x.B.ops[x.B.ops.length-1]? =some (x.B.ops[x.B.ops.length-1]'(by omega)):=List.getElem?_eq_getElem _
 generalize x.B.ops[x.B.ops.length-1]'(by omega)=y at hk
 obtain⟨rb',o',X,Z,R,h1,h2,h3,h4⟩:=psOp x b F hk
 rw [ha]at h1;cases h1
 refine st_imp h3 (st_up ?_)
 rw [h2]
 refine go ?_
 obtain⟨x',e1,e2,e3,e4,e5⟩:=h4 {y with o:={y.o with n:=n},row:=y.row,fit:=y.fit} (Nat.le_refl _)
 exact⟨_,e5,h x' (by rw [e1,List.length_set]) e2⟩
instance bdz425:BdZ 425 [.bool false,.bool false]:=⟨by kernel_rfl⟩
instance psLook {b:Nat} {x:Ps} {F:St} {s:ByteArray} {d:Chunk} {K:Value→SP}:Go1 (qy (Instr.lookup 423 (.map (some x.B.lr)) (.string s) true) K (d::psC b x::F)) (∀(n:Int) (q:Bool),K (.tuple ⟨[.int .i64 n,.bool q]⟩) (d::psC b x::F)):=⟨fun h=>by
 have h1:qy (Instr.lookup 423 (.map (some x.B.lr)) (.string s) true) (fun v _=>∃(n:Int) (q:Bool),v= .tuple ⟨[.int .i64 n,.bool q]⟩) (psParts b x++F):=by
  simp only [psParts,List.cons_append,List.nil_append]
  exact go fun n q=>⟨n,q,rfl⟩
 obtain⟨v,hr,n,q,rfl⟩:=h1
 exact⟨_,fun E w hw=>hr E w ((Imp.trans drp psLay:Imp (d::psC b x::F) (psParts b x++F)) E w hw),h n q⟩⟩
section
variable {cs:St} {b:Nat} {x:Ps} {put:Chunk→St} {K:Value→SP}
instance c384 [o:Ob psC cs b x put] [g:Glob (put [])] {w:ByteArray}:Go1 (fn 384 [.pointer (some (ad b 0)),.string w] K cs) ((x.B.ops.length<100000∧x.B.uses.length<100000)∧∀x':Ps,Gr x.B x'.B→K undef (put (psC b x'))):=⟨fun⟨⟨hl1,hl2⟩,h⟩=>o.fnG g (psParts b x) rfl fun F gf=>f384 (by
 have gf:=gf
 unfold s384
 simp only [psParts,List.cons_append,List.nil_append]
 let x1:Ps:={x with B:={x.B with opn:=false,op1:=fun e=>nomatch e},nl:=x.nl}
 have hd:∀x':Ps,Gr x.B x'.B→∀c,Imp c (psC b x'::F)→∃parts',Imp c (parts'++F)∧K undef (put parts'.flatten):=fun x' hg c hi=>psDone x' (hi.trans psLay) (h x' hg)
 refine st_up (go ?_)
 refine⟨psC b x1::F,Imp.trans (b:=psParts b x1++F) (by dsimp only [psParts,psCells,List.cons_append,List.nil_append,x1];exact drp) psShut,?_⟩
 refine go ?_
 have i1:x1.B.ops.length=x.B.ops.length:=rfl
 have i2:x1.B.uses.length=x.B.uses.length:=rfl
 have hd':∀x':Ps,x'.B.ops.length≤x.B.ops.length+1→x'.B.uses.length≤x.B.uses.length+1→∃parts',Imp (psC b x'::F) (parts'++F)∧K undef (put parts'.flatten):=fun x' h1 h2=>hd x' ⟨h1,h2⟩ _ (Imp.refl _)
 refine⟨fun _=>⟨hl1,fun x2 q e1 e2 hq x3 s e3 hs=> ?_⟩,fun _=>⟨fun _=>⟨hl1,fun x2 q e1 e2 hq x3 n e3=> ?_⟩,fun _=>⟨fun _=>⟨hl1,fun x2 q e1 e2 hq=>⟨⟨by omega,?_⟩,fun x3 f1 f2=>hd' x3 (by omega) (by omega)⟩⟩,
  fun _=>⟨fun _=>⟨hl1,fun x2 q e1 e2 hq x3 n e3=> ?_⟩,fun _=>⟨fun _=>⟨hl1,fun x2 q e1 e2 hq=>hd' x2 (by omega) (by omega)⟩,fun _=>⟨fun _=>⟨hl1,fun x2 q e1 e2 hq=>hd' x2 (by omega) (by omega)⟩,fun _=>⟨fun _ x2 w2 hB hw b2=> ?_,fun _=>hd' x1 (by omega) (by omega)⟩⟩⟩⟩⟩⟩⟩
 ·refine psText (by rw [e3];exact hq) hs fun x4 f1 f2=>hd' x4 ?_ ?_
  ·rw [f1,e3];omega
  ·rw [f2,e3];omega
 ·refine psN (by rw [e3];exact hq) fun x4 f1 f2=> ?_
  have i3:x4.B.ops.length=x.B.ops.length+1:=by rw [f1,e3];omega
  have i4:x4.B.uses.length=x.B.uses.length:=by rw [f2,e3];omega
  refine go (st_imp (cs':=psParts b x4++F) psLay ?_)
  simp only [psParts,List.cons_append,List.nil_append]
  refine go ?_
  refine psDone {x4 with B:={x4.B with opn:=true,t1:=false,t2:=false,op1:=fun _=>by omega},nl:=x4.nl} (by dsimp only [psParts,psCells,List.cons_append,List.nil_append];exact drp) (h _ ⟨?_,?_⟩)
  ·dsimp only;omega
  ·dsimp only;omega
 ·obtain⟨rb,o',ha,h0,_⟩:=hq
  exact⟨x2.B.ops.length-1,x2.B.ops[x2.B.ops.length-1]'(by omega),by omega,List.getElem?_eq_getElem _,.inl rfl⟩
 ·refine psN (by rw [e3];exact hq) fun x4 f1 f2=>hd' x4 ?_ ?_
  ·rw [f1,e3];omega
  ·rw [f2,e3];omega
 ·refine⟨fun _ c=>∃x',x'.B=x2.B∧Imp c (bk b2 472 (encWd.f w2)::psC b x'::F),fun l c hc=> ?_,?_⟩
  ·obtain⟨x',hB',hi⟩:=hc
   refine⟨_,hi,?_⟩
   refine go (sm_imp (cs':=psParts b x'++(bk b2 472 (encWd.f w2)::F)) (Imp.trans drp (psLay (F:=bk b2 472 (encWd.f w2)::F))) ?_)
   simp only [psParts,List.cons_append,List.nil_append]
   refine go fun M'=> ?_
   refine psDone {x' with B:={x'.B with lm:=M'},nl:=x'.nl} (by dsimp only [psParts,psCells,List.cons_append,List.nil_append];exact drp) (h _ ?_)
   dsimp only
   rw [hB',hB]
   exact⟨Nat.le_succ _,Nat.le_succ _⟩
  ·refine go fun n q=>⟨fun _ x3 hB3 _ _=>⟨x3,hB3,Imp.refl _⟩,fun _=>⟨x2,rfl,Imp.refl _⟩⟩)⟩
end
instance:ArT 425 2:=⟨by kernel_rfl⟩
theorem psArms {b:Nat} {x:Ps} {F:St} {k:Nat} {y:OpX} (hk:x.B.ops[k]? =some y) {rb o:Nat} (ha:x.B.oa=some (ad rb o)):RdV (psC b x::F) ((ad rb (o+k*7)).add 4) (.slice y.a y.o.arms.length y.c):=by
 obtain⟨rb',o',X,Z,R,h1,h2,h3,h4⟩:=psOp x b F hk
 rw [ha]at h1;cases h1
 have r:RdV (bk b 428 (psCells x)::bk rb 97 (X++(opCells y.o y.a y.o.arms.length y.c++Z))::y.ch::R::mpsC x.B.lr x.B.lm::x.B.uch::x.B.wch::F) ((ad rb X.length).add 4) (.slice y.a y.o.arms.length y.c):=inferInstance
 rw [h2]
 exact⟨fun E w hw=>r.h E w (h3 E w hw)⟩
section
variable {cs:St} {b:Nat} {x:Ps} {put:Chunk→St} {K:Value→SP}
instance c383 [o:Ob psC cs b x put] {w:ByteArray}:Go1 (fn 383 [.pointer (some (ad b 0)),.string w] K cs) ((x.B.ops.length<100000∧x.B.uses.length<100000)∧∀x':Ps,Gr x.B x'.B→K undef (put (psC b x'))):=⟨fun⟨⟨hl1,hl2⟩,h⟩=>o.fn1 (psC b x) rfl fun F=>f383 (by
 unfold s383
 have hd:∀x':Ps,x'.B.ops.length≤x.B.ops.length+1→x'.B.uses.length≤x.B.uses.length+1→∀{c:St},Imp c (psC b x'::F)→∃q1,Imp c (q1::F)∧K undef (put q1):=fun x' h1 h2 c hi=>⟨_,hi,h x' ⟨h1,h2⟩⟩
 refine go ⟨fun _ x1 hB _ _=>hd x1 (by rw [hB];omega) (by rw [hB];omega) (Imp.refl _),fun c0=> ?_⟩
 have h0:0<x.B.ops.length:=x.B.op1 (by simpa using c0)
 obtain⟨k,hk⟩:∃k,k+1=x.B.ops.length:=⟨x.B.ops.length-1,by omega⟩
 obtain⟨y,hy⟩:∃y,x.B.ops[k]? =some y:=⟨_,List.getElem?_eq_getElem (by omega)⟩
 obtain⟨rb,o',_,_,_,ha,_,_,_⟩:=psOp x b F hy
 have e4:w64 ((x.B.ops.length:Int)-1)=k:=by rw [w64_id (by omega)];omega
 rw [e4,ha]
 refine ix_at (sz:=7) (by omega) (by omega) ?_
 have e5:(k:Int).toNat=k:=rfl
 rw [e5]
 refine⟨fun l c=>∃(x':Ps) (n:Int),l=[.int .i64 n]∧(n=0∨n=1)∧x'.B=x.B∧Imp c (psC b x'::F),fun l c hc=> ?_,?_⟩
 ·obtain⟨x',n,rfl,hn,hB,hi⟩:=hc
  refine⟨_,hi,?_⟩
  refine go ⟨fun l c=>∃x2:Ps,x2.B=x.B∧Imp c (psC b x2::F),fun l c hc=> ?_,?_⟩
  ·obtain⟨x2,hB2,hi2⟩:=hc
   have l1:x2.B.ops.length=x.B.ops.length:=by rw [hB2]
   have l2:x2.B.uses.length=x.B.uses.length:=by rw [hB2]
   have l3:x2.B.ops[k]? =some y:=by rw [hB2];exact hy
   refine⟨_,hi2,?_⟩
   rcases hn with rfl | rfl
   ·refine go ⟨⟨by omega,by omega⟩,?_⟩
    refine st_imp (cs':=psParts b x2++F) psLay ?_
    simp only [psParts,List.cons_append,List.nil_append,Int.toNat_zero,Nat.add_zero]
    refine go ?_
    refine fn_imp (cs':=psC b {x2 with B:={x2.B with t1:=true},nl:=x2.nl}::F) (Imp.trans (b:=psParts b {x2 with B:={x2.B with t1:=true},nl:=x2.nl}++F) (by dsimp only [psParts,psCells,List.cons_append,List.nil_append];exact drp) psShut) ?_
    refine go ⟨⟨by show x2.B.uses.length<_;omega,k,y,by show _=x2.B.ops.length;omega,l3,.inr (.inl (by decide))⟩,fun x4 f1 f2=>hd x4 ?_ ?_ (Imp.refl _)⟩
    ·rw [f1];show x2.B.ops.length≤_;omega
    ·rw [f2];show x2.B.uses.length+1≤_;omega
   ·refine go ⟨⟨by omega,by omega⟩,?_⟩
    refine st_imp (cs':=psParts b x2++F) psLay ?_
    simp only [psParts,List.cons_append,List.nil_append,Int.toNat_one]
    refine go ?_
    refine fn_imp (cs':=psC b {x2 with B:={x2.B with t2:=true},nl:=x2.nl}::F) (Imp.trans (b:=psParts b {x2 with B:={x2.B with t2:=true},nl:=x2.nl}++F) (by dsimp only [psParts,psCells,List.cons_append,List.nil_append];exact drp) psShut) ?_
    refine go ⟨⟨by show x2.B.uses.length<_;omega,k,y,by show _=x2.B.ops.length;omega,l3,.inr (.inr (.inl (by decide)))⟩,fun x4 f1 f2=>hd x4 ?_ ?_ (Imp.refl _)⟩
    ·rw [f1];show x2.B.ops.length≤_;omega
    ·rw [f2];show x2.B.uses.length+1≤_;omega
  ·rcases hn with rfl | rfl
   ·refine go ⟨⟨by omega,by omega⟩,?_⟩
    simp only [Int.toNat_zero,Nat.add_zero]
    refine go ⟨fun _ x2 hB2 _ _=>⟨x2,hB2.trans hB,Imp.refl _⟩,fun _=>⟨x',hB,Imp.refl _⟩⟩
   ·refine go ⟨⟨by omega,by omega⟩,?_⟩
    simp only [Int.toNat_one]
    refine go ⟨fun _ x2 hB2 _ _=>⟨x2,hB2.trans hB,Imp.refl _⟩,fun _=>⟨x',hB,Imp.refl _⟩⟩
 ·have r1:RdV (psC b x::F) ((ad rb (o'+k*7)).add 4) (.slice y.a y.o.arms.length y.c):=psArms hy ha
  have r1:=r1
  refine go ⟨fun _=>⟨fun _ x1 hB _ _=>hd x1 (by rw [hB];omega) (by rw [hB];omega) (Imp.refl _),fun c2 x3 s hB3 hs=> ?_⟩,fun _=>⟨fun _=>⟨x,1,rfl,.inr rfl,rfl,Imp.refl _⟩,fun _=>⟨x,0,rfl,.inl rfl,rfl,Imp.refl _⟩⟩⟩
  have hy3:x3.B.ops[k]? =some y:=by rw [hB3];exact hy
  have ha3:x3.B.oa=some (ad rb o'):=by rw [hB3];exact ha
  have r3:RdV (psC b x3::F) ((ad rb (o'+k*7)).add 4) (.slice y.a y.o.arms.length y.c):=psArms hy3 ha3
  have r3:=r3
  refine go ⟨by decide,fun b2=> ?_⟩
  obtain⟨rb2,o2,X,Z,R,q1,q2,q3,q4⟩:=psOp x3 b (bk b2 146 [.string s,.int .i64 0]::F) hy3
  rw [ha3]at q1;cases q1
  rw [q2]
  refine sm_imp (Imp.trans (b:=psC b x3::bk b2 146 [.string s,.int .i64 0]::F) drp q3) ?_
  have ry:=y.row
  have ry:=ry
  have hyf:=y.fit
  have hc2:y.o.arms.length<8:=by simp only [decide_eq_false_iff_not]at c2;omega
  refine go ⟨⟨by omega,by omega⟩,⟨s,0⟩,rfl,fun a' c' ch' r4=> ?_⟩
  have e7:y.o.arms.length+1=(y.o.arms++[(⟨s,0⟩:ArmM)]).length:=by simp
  have r5:Row 146 2 a' (y.o.arms++[(⟨s,0⟩:ArmM)]).length c' encArm (y.o.arms++[(⟨s,0⟩:ArmM)]) ch':=by rw [←e7];exact r4
  let y':OpX:=⟨{y.o with arms:=y.o.arms++[⟨s,0⟩]},a',c',ch',r5,hyf.1,by show(y.o.arms++[_]).length≤8;rw [←e7];omega,fun m hm=>by
   rcases List.mem_append.1 hm with hm | hm
   ·exact hyf.2.2 m hm
   ·rw [List.mem_singleton]at hm;subst hm;exact hs⟩
  obtain⟨x5,f1,f2,f3,f4,f5⟩:=q4 y' (by show _≤(y.o.arms++[_]).length;omega)
  have l1:x5.B.ops.length=x.B.ops.length:=by rw [f1,List.length_set,hB3]
  have l2:x5.B.uses.length=x.B.uses.length:=by rw [f2,hB3]
  refine fn_imp (cs':=psC b x5::F) (Imp.trans ?_ (Imp.trans f5 drp)) ?_
  ·have:opCells y'.o y'.a y'.o.arms.length y'.c=[.int .i64 y.o.kind,.string y.o.text,.int .i64 y.o.n,.int .i64 y.o.to,.slice a' (y.o.arms.length+1) c',.int .i64 y.o.onT,.int .i64 y.o.onE]:=by rw [e7]
   rw [this]
   exact Imp.refl _
  refine go ⟨⟨by omega,k,y',by omega,by rw [f1,List.getElem?_set_self (lt_of_get hy3)],.inr (.inr (.inr ?_))⟩,fun x6 g1 g2=>hd x6 (by omega) (by omega) (Imp.refl _)⟩
  show 0≤w64 (((y.o.arms.length+1:Nat):Int)-1)∧w64 (((y.o.arms.length+1:Nat):Int)-1)<((y.o.arms++[(⟨s,0⟩:ArmM)]).length:Int)
  rw [w64_id (by omega),←e7]
  omega)⟩
end
instance fdWd2:FdI encWd 2 .i64 WordM.at_:=⟨fun _=>rfl⟩
theorem psUses {b:Nat} {x:Ps} {cs:St}:Rw 477 5 (psC b x::cs) x.B.ua x.B.uses.length x.B.uc encUse x.B.uses:=⟨by
 have r:Row 477 5 x.B.ua x.B.uses.length x.B.uc encUse x.B.uses x.B.uch:=x.B.urow
 have r:=r
 have h:Rw 477 5 (psParts b x++cs) x.B.ua x.B.uses.length x.B.uc encUse x.B.uses:=by simp only [psParts,List.cons_append,List.nil_append];infer_instance
 have e:(psC b x::cs).flatten=(psParts b x++cs).flatten:=by simp [psC]
 obtain⟨h1,h2,h3⟩:=h.h
 refine⟨h1,h2,fun hn=> ?_⟩
 obtain⟨b',o',T,cells,q1,q2,q3⟩:=h3 hn
 exact⟨b',o',T,cells,q1,q2.mono fun x hx=>by rw [e];exact hx,q3⟩⟩
section
variable {cs:St} {b:Nat} {x:Ps} {put:Chunk→St} {K:Value→SP}
instance c317 [o:Ob psC cs b x put] [g:Glob (put [])]:Go1 (fn 317 [.pointer (some (ad b 0))] K cs) ((x.next<x.B.words.length∧x.B.ops.length<100000∧x.B.uses.length<100000)∧∀x':Ps,Gr x.B x'.B→K undef (put (psC b x'))):=⟨fun⟨⟨hn,hl1,hl2⟩,h⟩=>o.fn1G g (psC b x) rfl fun F gf=>f317 (by
 have gf:=gf
 unfold s317
 have hwl:=x.B.wl
 have hd:∀x':Ps,Gr x.B x'.B→∀{c:St},Imp c (psC b x'::F)→∃q1,Imp c (q1::F)∧K undef (put q1):=fun x' hg c hi=>⟨_,hi,h x' hg⟩
 have r0:Rw 472 3 (psC b x::F) x.B.wa x.B.words.length x.B.wc encWd x.B.words:=psWords
 have r0:=r0
 refine go ?_
 refine rwIx (i:=(x.next:Int)) ⟨by omega,by omega⟩ fun w p1 hw r1 r2=> ?_
 have r1:=r1
 have r2:=r2
 refine go fun b1=> ?_
 let x1:Ps:={x with next:=x.next+1,nl:=by omega}
 have e1:w64 ((x.next:Int)+1)=(x1.next:Int):=by rw [w64_id (by omega)];rfl
 let S:St:=psC b x1::bk b1 472 (encWd.f w)::F
 refine st_imp (cs':=psParts b x++(bk b1 472 (encWd.f w)::F)) (Imp.trans (b:=psC b x::bk b1 472 (encWd.f w)::F) drp psLay) (st_up ?_)
 simp only [psParts,List.cons_append,List.nil_append]
 refine go ⟨S,?_,?_⟩
 ·rw [e1]
  exact Imp.trans (b:=psParts b x1++(bk b1 472 (encWd.f w)::F)) (by dsimp only [psParts,psCells,List.cons_append,List.nil_append,x1];exact drp) psShut
 refine go ⟨fun l c=>(∃q:Bool,l=[.bool q])∧c=S,fun l c hc=> ?_,?_⟩
 ·obtain⟨⟨q,rfl⟩,rfl⟩:=hc
  refine⟨S,Imp.refl _,?_⟩
  refine go ⟨fun _ x2 hB _ _=>hd x2 (gr_same hB) drp,fun _=>⟨fun _ c=>∃x':Ps,Gr x.B x'.B∧Imp c (psC b x'::bk b1 472 (encWd.f w)::F),fun l c hc=> ?_,?_⟩⟩
  ·obtain⟨x',hg,hi⟩:=hc
   refine⟨_,hi,?_⟩
   have r3:Rw 472 3 (psC b x'::bk b1 472 (encWd.f w)::F) x'.B.wa x'.B.words.length x'.B.wc encWd x'.B.words:=psWords
   have r3:=r3
   refine go ⟨fun _=>⟨fun c1=>⟨⟨by omega,by simpa using c1⟩,fun v _ x3 hB _ _=>hd x3 (by rw [hB];exact hg) drp⟩,fun _=>hd x' hg drp⟩,fun _=>hd x' hg drp⟩
  ·have one:∀x3:Ps,Gr x1.B x3.B→∃x4:Ps,Gr x.B x4.B∧Imp (psC b x3::bk b1 472 (encWd.f w)::F) (psC b x4::bk b1 472 (encWd.f w)::F):=fun x3 hg=>⟨x3,hg,Imp.refl _⟩
   exact go ⟨fun _=>one,fun _=>⟨fun _=>⟨⟨hl1,hl2⟩,one⟩,fun _=>⟨fun _=>⟨⟨hl1,hl2⟩,one⟩,fun _=>⟨fun _=>⟨⟨hl1,hl2⟩,one⟩,fun _=>⟨⟨hl1,hl2⟩,one⟩⟩⟩⟩⟩
 ·refine go ?_
  repeat' (first | apply And.intro | intro _)
  all_goals first | exact⟨_,rfl⟩ | rfl)⟩
instance c318 [o:Ob psC cs b x put]:Go1 (fn 318 [.pointer (some (ad b 0))] K cs) (∀x':Ps,x'.B.ops.length=x.B.ops.length→K undef (put (psC b x'))):=⟨fun h=>o.fn1 (psC b x) rfl fun F=>f318 (by
 unfold s318
 have hul:=x.B.ul
 have hd:∀x':Ps,x'.B.ops.length=x.B.ops.length→∀{c:St},Imp c (psC b x'::F)→∃q1,Imp c (q1::F)∧K undef (put q1):=fun x' hg c hi=>⟨_,hi,h x' hg⟩
 refine go ?_
 refine lp (α:=Nat×Ps) (fun i=>[.int .i64 i.1]) (fun i=>psC b i.2::F) (fun i=>i.1≤x.B.uses.length∧i.2.B.uses=x.B.uses∧i.2.B.ua=x.B.ua∧i.2.B.uc=x.B.uc∧i.2.B.ops.length=x.B.ops.length) (fun i=>x.B.uses.length-i.1) (0,x) rfl (Imp.refl _) ⟨Nat.zero_le _,rfl,rfl,rfl,rfl⟩ ?_
 rintro⟨i,x1⟩ ⟨hi,hu,hua,huc,hol⟩
 dsimp only at hi hu hua huc hol ⊢
 have r0:Rw 477 5 (psC b x1::F) x1.B.ua x1.B.uses.length x1.B.uc encUse x1.B.uses:=psUses
 rw [hu,hua,huc]at r0
 have r0:=r0
 refine go ⟨fun c0=>⟨⟨by omega,by simpa using c0⟩,fun u hgu b2 n q=>⟨fun _=> ?_,fun _=> ?_⟩⟩,fun _=>hd x1 hol (Imp.refl _)⟩
 ·let x2:Ps:={x1 with B:={x1.B with line:=u.line},nl:=x1.nl}
  refine st_imp (cs':=psParts b x1++(bk b2 477 (encUse.f u)::F)) (Imp.trans (b:=psC b x1::bk b2 477 (encUse.f u)::F) drp psLay) ?_
  simp only [psParts,List.cons_append,List.nil_append]
  refine go ?_
  refine psCall (b:=b) (x2:=x2) (F:=F) (by dsimp only [psParts,psCells,List.cons_append,List.nil_append,x2];exact drp) ?_
  refine go fun x3 hB _ _=> ?_
  exact⟨_,Imp.refl _,go (hd x3 (by rw [hB];exact hol) (Imp.refl _))⟩
 ·have nxt:∀x2:Ps,x2.B.uses=x.B.uses→x2.B.ua=x.B.ua→x2.B.uc=x.B.uc→x2.B.ops.length=x.B.ops.length→∀c:St,Imp c (psC b x2::F)→∃x':Nat×Ps,[Value.int .i64 (w64 ((i:Int)+1))]=[Value.int .i64 x'.1]∧Imp c (psC b x'.2::F)∧(x'.1≤x.B.uses.length∧x'.2.B.uses=x.B.uses∧x'.2.B.ua=x.B.ua∧x'.2.B.uc=x.B.uc∧x'.2.B.ops.length=x.B.ops.length)∧x.B.uses.length-x'.1<x.B.uses.length-i:=fun x2 h1 h2 h3 h4 c hc=>by
   have hlt:i<x.B.uses.length:=by simpa using c0
   exact⟨(i+1,x2),by rw [w64_succ (by omega)],hc,⟨by show i+1≤_;omega,h1,h2,h3,h4⟩,by show _-(i+1)<_;omega⟩
  obtain⟨k,f1,y,hy,hhow⟩:=x1.B.us u (by rw [hu];exact List.mem_of_getElem? hgu)
  have hk:=lt_of_get hy
  obtain⟨rb,o',X,Z,R,ha,q2,q3,q4⟩:=psOp x1 b (bk b2 477 (encUse.f u)::F) hy
  have rA:RdV (psC b x1::F) ((ad rb (o'+k*7)).add 4) (.slice y.a y.o.arms.length y.c):=psArms hy ha
  have rA:=rA
  rw [ha]
  refine ix_at (sz:=7) (by omega) (by omega) ?_
  have e5:u.op.toNat=k:=by omega
  rw [e5]
  have q5:Imp (bk b2 477 (encUse.f u)::psC b x1::F) _:=Imp.trans (b:=psC b x1::bk b2 477 (encUse.f u)::F) drp q3
  have fin1:∀y':OpX,y.o.arms.length≤y'.o.arms.length→∃x2:Ps,(∀c:St,Imp c (bk b 428 (psCells x1)::bk rb 97 (X++(opCells y'.o y'.a y'.o.arms.length y'.c++Z))::y'.ch::R::mpsC x1.B.lr x1.B.lm::x1.B.uch::x1.B.wch::bk b2 477 (encUse.f u)::F)→∃x':Nat×Ps,[Value.int .i64 (w64 ((i:Int)+1))]=[Value.int .i64 x'.1]∧Imp c (psC b x'.2::F)∧(x'.1≤x.B.uses.length∧x'.2.B.uses=x.B.uses∧x'.2.B.ua=x.B.ua∧x'.2.B.uc=x.B.uc∧x'.2.B.ops.length=x.B.ops.length)∧x.B.uses.length-x'.1<x.B.uses.length-i):=fun y' hle=>by
   obtain⟨x2,g1,g2,g3,⟨g4,g5,g6⟩,g7⟩:=q4 y' hle
   exact⟨x2,fun c hc=>nxt x2 (g2.trans hu) (g5.trans hua) (g6.trans huc) (by rw [g1,List.length_set];exact hol) c (hc.trans (g7.trans drp))⟩
  refine go ⟨fun _=> ?_,fun d1=>⟨fun _=> ?_,fun d2=>⟨fun _=> ?_,fun d3=> ?_⟩⟩⟩
  ·refine st_imp q5 ?_
   rw [q2]
   refine go ?_
   obtain⟨x2,hx2⟩:=fin1 {y with o:={y.o with to:=n},row:=y.row,fit:=y.fit} (Nat.le_refl _)
   exact hx2 _ (Imp.refl _)
  ·refine st_imp q5 ?_
   rw [q2]
   refine go ?_
   obtain⟨x2,hx2⟩:=fin1 {y with o:={y.o with onT:=n},row:=y.row,fit:=y.fit} (Nat.le_refl _)
   exact hx2 _ (Imp.refl _)
  ·refine st_imp q5 ?_
   rw [q2]
   refine go ?_
   obtain⟨x2,hx2⟩:=fin1 {y with o:={y.o with onE:=n},row:=y.row,fit:=y.fit} (Nat.le_refl _)
   exact hx2 _ (Imp.refl _)
  ·simp only [beq_eq_false_iff_ne]at d1 d2 d3
   obtain⟨m,hm,hmlt⟩:∃m:Nat,u.how=m∧m<y.o.arms.length:=⟨u.how.toNat,by omega,by omega⟩
   have ry:Row 146 2 y.a y.o.arms.length y.c encArm y.o.arms y.ch:=y.row
   obtain⟨rb3,o3,X3,Z3,t1,t2,t3,t4⟩:=ry.split hmlt
   rw [t1]
   refine ix_at (sz:=2) (by omega) (by omega) ?_
   have e6:u.how.toNat=m:=by omega
   rw [e6]
   refine st_imp q5 ?_
   rw [t2,t3]
   refine go ?_
   have hyf:=y.fit
   have hf2:y.o.text.size≤1200∧(y.o.arms.set m {y.o.arms[m]with to:=n}).length≤8∧∀z∈y.o.arms.set m {y.o.arms[m]with to:=n},z.pat.size≤1200:=⟨hyf.1,by rw [List.length_set];exact hyf.2.1,fun z hz=>by
    rcases List.mem_or_eq_of_mem_set hz with hz | rfl
    ·exact hyf.2.2 z hz
    ·exact hyf.2.2 y.o.arms[m] (List.getElem_mem hmlt)⟩
   obtain⟨x2,hx2⟩:=fin1 {y with o:={y.o with arms:=y.o.arms.set m {y.o.arms[m]with to:=n}},ch:=_,row:=(by rw [List.length_set];exact t4 _),fit:=hf2} (by simp)
   refine hx2 _ ?_
   dsimp only
   rw [List.length_set]
   exact Imp.refl _)⟩
end
theorem split_sum (sep:ByteArray) (h1:1≤sep.size):∀(k:Nat) (s:ByteArray),((Lib.splitB sep 0 k s).map fun x=>x.size+1).sum≤s.size+1
 | 0,s=>by rw [Lib.splitB_zero];simp
 | k+1,s=>by
  rcases Lib.indexB_cases s sep with hm | ⟨i,hi,hle⟩
  ·rw [Lib.splitB_miss sep 0 _ s hm];simp
  ·rw [Lib.splitB_hit sep 0 k s i hi]
   simp only [List.map_cons,List.sum_cons]
   refine Nat.le_trans (Nat.add_le_add_left (split_sum sep h1 k _) _) ?_
   rw [ByteArray.size_extract,ByteArray.size_extract]
   omega
theorem map_flat (l:List ByteArray):l.map Value.string=l.flatMap encS.f:=by
 induction l with
 | nil=>rfl
 | cons a l ih=>rw [List.map_cons,List.flatMap_cons,ih];rfl
theorem sum_len:∀(l:List ByteArray),l.length≤(l.map fun x=>x.size+1).sum
 | []=>Nat.zero_le _
 | x::l=>by have:=sum_len l;simp only [List.map_cons,List.sum_cons,List.length_cons];omega
section
variable {cs:St} {K:Value→SP}
instance c314 {s:ByteArray}:Go1 (fn 314 [.string s] K cs) (∀q:Bool,(q=false→0<s.size)→K (.bool q) cs):=⟨fun h=>f314 (by
 unfold s314
 refine go ?_
 simp only [empty_iff,decide_eq_true_eq,decide_eq_false_iff_not]
 exact⟨fun _=>h true (fun e=>nomatch e),fun c0=>⟨⟨by omega,by omega⟩,h _ fun _=>by omega⟩⟩)⟩
theorem c217t {s:ByteArray} (g:Glob cs) (hs:s.size≤4000000000) (h:∀(a:Option Addr) (c:Nat) (ch:Chunk) (L:List ByteArray),Row 9 1 a L.length c encS L ch→(L.map fun x=>x.size+1).sum≤s.size+1→K (.slice a L.length c) (ch::cs)):fn 217 [.string s] K cs:=f217 (by
 unfold s217
 refine c312t g (by omega) (by decide) fun b=> ?_
 have r:Row 9 1 (some (ad b 0)) (splitV s (bs [10])).length (splitV s (bs [10])).length encS (splitV s (bs [10])) (bk b 9 ((splitV s (bs [10])).map Value.string)):=⟨by
  have:=Sl.mk (T:=9) (sz:=1) b (splitV s (bs [10])).length (splitV s (bs [10])).length [] ((splitV s (bs [10])).flatMap encS.f) [] (by rw [encS.flat_len]) (by rw [encS.flat_len];rfl) (Nat.le_refl _) (by have:=sum_len (splitV s (bs [10]));have:=split_sum (bs [10]) (by decide) (Lib.countB s (bs [10])) s;unfold splitV at *;omega)
  rw [map_flat]
  simpa using this⟩
 exact go (h _ _ _ _ r (split_sum _ (by decide) _ _)))
def psSc (x:Ps):Sc:=⟨⟨x.B.name,x.B.dl,x.B.jumps,x.B.ops.map OpX.o⟩,x.B.oa,x.B.ops.length,x.B.oc,x.B.och++opsC x.B.ops,by
 have r:Row 97 7 x.B.oa x.B.ops.length x.B.oc encOp (x.B.ops.map OpX.v) x.B.och:=x.B.orow
 refine⟨x.B.oa,x.B.ops.length,x.B.oc,x.B.ops.map OpX.v,rfl,?_,by simp,?_⟩
 ·have h1:RdS [x.B.och] encOp x.B.oa x.B.ops.length x.B.oc (x.B.ops.map OpX.v):=Row.rd r (inferInstance:ChAt [x.B.och] x.B.och _)
  exact h1.sub fun y hy=>by simp at hy ⊢;exact .inl hy
 ·intro v hv
  obtain⟨y,hy,rfl⟩:=List.mem_map.1 hv
  have h1:RdS [y.ch] encArm y.a y.o.arms.length y.c y.o.arms:=Row.rd y.row (inferInstance:ChAt [y.ch] y.ch _)
  exact h1.sub fun z hz=>by
   simp only [List.flatten_cons,List.flatten_nil,List.append_nil]at hz ⊢
   exact List.mem_append_right _ (List.mem_flatMap.2 ⟨y,hy,hz⟩)⟩
theorem psSc_fit (x:Ps) (h:x.B.ops.length≤100000):(psSc x).p.Fit:=⟨Nat.le_trans x.B.nf (by decide),by show(x.B.ops.map OpX.o).length≤_;rw [List.length_map];omega,fun o ho=>by
 obtain⟨y,hy,rfl⟩:=List.mem_map.1 ho
 have:=y.fit
 exact⟨by omega,by omega,fun m hm=>Nat.le_trans (this.2.2 m hm) (by decide)⟩⟩
def zeroSc:Sc:=⟨⟨bs [],0,0,[]⟩,none,0,0,[],⟨none,0,0,[],rfl,Row.rd (⟨Sl.nil⟩:Row 97 7 none 0 0 encOp [] []) (inferInstance:ChAt [[]] [] _),rfl,fun x hx=>nomatch hx⟩⟩
theorem zeroSc_fit:zeroSc.p.Fit:=⟨by decide,by decide,fun o ho=>nomatch ho⟩
theorem c221t {s:ByteArray} (g:Glob cs) (hs:s.size≤99999) (h:∀(sc:Sc) (s1 s2 e:Int),sc.p.Fit→K (.tuple ⟨[.agg ⟨prCells sc.p sc.a sc.n sc.c⟩,.agg ⟨[.int .i64 s1,.int .i64 s2]⟩,.int .i64 e]⟩) (sc.ch::cs)):fn 221 [.string s] K cs:=up0 (f221 (by
 have hzero:∀(s1 s2 e:Int) (c:St),Imp c cs→Up K (.tuple ⟨[.agg ⟨[.string (bs []),.int .i64 0,.int .i64 0,.slice none 0 0]⟩,.agg ⟨[.int .i64 s1,.int .i64 s2]⟩,.int .i64 e]⟩) c:=fun s1 s2 e c hc=>⟨[]::cs,hc.trans drp,h zeroSc s1 s2 e zeroSc_fit⟩
 unfold s221
 refine go fun b1 b2 r M b3=> ?_
 refine c217t inferInstance (by omega) fun a c ch L hr hsum=> ?_
 have hr:=hr
 have hlen:=sum_len L
 let x0:Ps:=⟨⟨bs [],0,0,none,0,[],[],r,M,none,0,[],[],false,false,false,false,0,none,0,[],[],0,⟨Sl.nil⟩,⟨Sl.nil⟩,⟨Sl.nil⟩,Nat.zero_le _,(fun w hw=>nomatch hw),Nat.zero_le _,Nat.zero_le _,Nat.zero_le _,(fun e=>nomatch e),(fun u hu=>nomatch hu)⟩,0,0,0,0,Nat.le_refl _⟩
 let R:St:=ch::bk b2 274 [.int .i64 0,.int .i64 0]::bk b1 45 [.string .empty,.int .i64 0,.int .i64 0,.slice none 0 0]::cs
 have done:∀(x':Ps) (c:St),Imp c (psC b3 x'::R)→Imp c cs:=fun x' c hc=>hc.trans drp
 refine go ?_
 refine lp (α:=Nat×Ps) (fun i=>[.int .i64 i.1]) (fun i=>psC b3 i.2::R) (fun i=>i.1≤L.length∧i.2.B.ops.length≤i.1∧i.2.B.uses.length≤i.1) (fun i=>L.length-i.1) (0,x0) rfl ?_ ⟨Nat.zero_le _,Nat.le_refl _,Nat.le_refl _⟩ ?_
 ·refine Imp.trans (b:=psParts b3 x0++R) ?_ psShut
  have e0:psParts b3 x0=[bk b3 428 [.string (bs []),.int .i64 0,.int .i64 0,.slice none 0 0,.map (some r),.slice none 0 0,.bool false,.bool false,.bool false,.bool false,.int .i64 0,.slice none 0 0,.int .i64 0,.int .i64 0,.int .i64 0,.int .i64 0,.int .i64 0],[],[],mpsC r M,[],[]]:=rfl
  rw [e0]
  dsimp only [List.cons_append,List.nil_append,R]
  exact drp
 rintro⟨i,x⟩ ⟨h1,h2,h3⟩
 dsimp only at h1 h2 h3 ⊢
 dsimp only [R]at done ⊢
 refine go ⟨fun c0=>⟨⟨by omega,by simpa using c0⟩,fun ln hln q hq=>⟨fun _=> ?_,fun c1=> ?_⟩⟩,fun c0=> ?_⟩
 ·exact⟨(i+1,x),by rw [w64_succ (by omega)],Imp.refl _,⟨by have:i<L.length:=(by simpa using c0);show i+1≤_;omega,Nat.le_succ_of_le h2,Nat.le_succ_of_le h3⟩,by have:i<L.length:=(by simpa using c0);show _-(i+1)<_;omega⟩
 ·have hlt:i<L.length:=by simpa using c0
  refine c315t fun a2 c2 ch2 L2 i2 e2 hr2 hw2 hl2 hi2 hz hs2=> ?_
  refine go ?_
  refine st_imp (cs':=psParts b3 x++(ch2::R)) (Imp.trans (b:=psC b3 x::ch2::R) drp psLay) ?_
  simp only [psParts,List.cons_append,List.nil_append]
  let x1:Ps:={x with B:={x.B with line:=w64 ((i:Int)+1),wa:=a2,wc:=c2,wch:=ch2,words:=L2,width:=(ln.size:Int),wrow:=hr2,wf:=fun w hw=>(hw2 w hw).1,wl:=hl2},next:=0,nl:=Nat.zero_le _}
  refine go ⟨fun _ c=>∃x':Ps,x'.B.ops.length≤i+1∧x'.B.uses.length≤i+1∧Imp c (psC b3 x'::R),fun l c hc=> ?_,?_⟩
  ·obtain⟨x',g1,g2,hi⟩:=hc
   refine⟨_,hi,?_⟩
   dsimp only [R]
   exact go ⟨fun _=>hzero _ _ _ _ drp,fun _=>⟨(i+1,x'),by rw [w64_succ (by omega)],Imp.refl _,⟨hlt,g1,g2⟩,by show _-(i+1)<_;omega⟩⟩
  ·have hopen:Imp (bk b3 428 [.string x.B.name,.int .i64 x.B.dl,.int .i64 x.B.jumps,.slice x.B.oa x.B.ops.length x.B.oc,.map (some x.B.lr),.slice x.B.ua x.B.uses.length x.B.uc,.bool x.B.head,.bool x.B.opn,.bool x.B.t1,.bool x.B.t2,.int .i64 (w64 ((i:Int)+1)),.slice a2 L2.length c2,.int .i64 (ln.size:Int),.int .i64 0,.int .i64 x.s1,.int .i64 x.s2,.int .i64 x.bad]::x.B.och::opsC x.B.ops::mpsC x.B.lr x.B.lm::x.B.uch::x.B.wch::ch2::R) (psC b3 x1::R):=by
    refine Imp.trans (b:=psParts b3 x1++R) ?_ psShut
    have e1:psParts b3 x1=[bk b3 428 [.string x.B.name,.int .i64 x.B.dl,.int .i64 x.B.jumps,.slice x.B.oa x.B.ops.length x.B.oc,.map (some x.B.lr),.slice x.B.ua x.B.uses.length x.B.uc,.bool x.B.head,.bool x.B.opn,.bool x.B.t1,.bool x.B.t2,.int .i64 (w64 ((i:Int)+1)),.slice a2 L2.length c2,.int .i64 (ln.size:Int),.int .i64 0,.int .i64 x.s1,.int .i64 x.s2,.int .i64 x.bad],x.B.och,opsC x.B.ops,mpsC x.B.lr x.B.lm,x.B.uch,ch2]:=rfl
    rw [e1]
    simp only [List.cons_append,List.nil_append]
    exact drp
   refine go ⟨fun _=> ?_,fun c2=> ?_⟩
   ·refine fn_imp hopen ?_
    exact go fun x' hB _ _=>⟨x',by rw [hB];exact Nat.le_succ_of_le h2,by rw [hB];exact Nat.le_succ_of_le h3,Imp.refl _⟩
   ·refine fn_imp hopen ?_
    have he:e2=0:=by simpa using c2
    have hq0:0<L2.length:=hz he (by have:=hq (by simpa using c1);simpa using this)
    dsimp only [R]
    refine go ⟨⟨hq0,by show x.B.ops.length<_;omega,by show x.B.uses.length<_;omega⟩,fun x' hg=> ?_⟩
    have g1:x'.B.ops.length≤x.B.ops.length+1:=hg.1
    have g2:x'.B.uses.length≤x.B.uses.length+1:=hg.2
    exact⟨x',by omega,by omega,Imp.refl _⟩
 ·refine go ⟨fun _=>hzero _ _ _ _ drp,fun _ x1 g1=>⟨fun _=>hzero _ _ _ _ drp,fun _=> ?_⟩⟩
  refine⟨(psSc x1).ch::cs,Imp.trans psLay ?_,h (psSc x1) 0 0 0 (psSc_fit x1 (by rw [g1];omega))⟩
  simp only [psParts,List.cons_append,List.nil_append,psSc]
  exact drp))
end
structure ScE where
 sc:Sc
 line:Int
 s1:Int
 s2:Int
 err:Int
@[reducible] def encScr:Enc ScE 8:=⟨fun y=>[.string y.sc.p.name,.int .i64 y.sc.p.dl,.int .i64 y.sc.p.jumps,.slice y.sc.a y.sc.n y.sc.c,.int .i64 y.line,.int .i64 y.s1,.int .i64 y.s2,.int .i64 y.err],by omega,fun _=>rfl⟩
structure PtX where
 line:Int
 a:Option Addr
 c:Nat
 ls:List ByteArray
 ch:Chunk
 row:Row 9 1 a ls.length c encS ls ch
@[reducible] def encPt:Enc PtX 2:=⟨fun x=>[.int .i64 x.line,.slice x.a x.ls.length x.c],by omega,fun _=>rfl⟩
def lsum (l:List ByteArray):Nat:=(l.map fun x=>x.size+1).sum
section
variable {cs:St} {K:Value→SP}
instance c218 {s:ByteArray}:Go1 (fn 218 [.string s] K cs) (∀q:Bool,K (.bool q) cs):=⟨fun h=>f218 (by
 unfold s218
 exact go ⟨fun _=>h _,fun _=>h _⟩)⟩
instance c220 {s:ByteArray}:Go1 (fn 220 [.string s] K cs) (∀q:Bool,K (.bool q) cs):=⟨fun h=>f220 (by
 unfold s220
 exact go fun q _=>h _)⟩
instance c313 {a:Option Addr} {n c:Nat} {l:List ByteArray} [r:Rw 9 1 cs a n c encS l]:Go1 (fn 313 [.slice a n c,.func (.func 220) ⟨[]⟩ ⟨[]⟩] K cs) (n≤1000000000000∧∀i:Int,-1≤i→i<n→K (.int .i64 i) cs):=⟨fun⟨hn,h⟩=>up0 (f313 (by
 unfold s313
 refine lp (fun i:Nat=>[.int .i64 i]) (fun _=>cs) (fun i=>i≤n) (fun i=>n-i) 0 rfl (Imp.refl _) (Nat.zero_le _) fun i hi=> ?_
 refine go ⟨fun c0=> ?_,fun c0=>fin (h _ (by omega) (by omega))⟩
 have hlt:i<n:=by simpa using c0
 exact⟨⟨by omega,by omega⟩,fun _ _ q=>⟨fun _=>fin (h _ (by omega) (by omega)),fun _=>⟨i+1,by rw [w64_succ (by omega)],Imp.refl _,by omega,by omega⟩⟩⟩))⟩
instance c219 {a:Option Addr} {n c:Nat} {l:List ByteArray} [r:Rw 9 1 cs a n c encS l]:Go1 (fn 219 [.slice a n c,.func (.func 220) ⟨[]⟩ ⟨[]⟩] K cs) (n≤1000000000000∧∀q:Bool,K (.bool q) cs):=⟨fun⟨hn,h⟩=>f219 (by
 unfold s219
 exact go ⟨hn,fun i _ _=>h _⟩)⟩
instance c321 {y:ScE} {b:Nat} {s:ByteArray} [r:RdV cs (ad b 0) (.string s)]:Go1 (fn 321 [.agg ⟨encScr.f y⟩,.pointer (some (ad b 0))] K cs) (∀q:Bool,K (.bool q) cs):=⟨fun h=>up0 (f321 (by
 unfold s321
 exact go fun b1=>⟨fun _=>fin (h _),fun _=>fin (h _)⟩))⟩
instance c320 {a:Option Addr} {n c b:Nat} {l:List ScE} {s:ByteArray} [r:Rw 276 8 cs a n c encScr l] [q:RdV cs (ad b 0) (.string s)]:Go1 (fn 320 [.slice a n c,.func (.func 321) ⟨[]⟩ ⟨[.pointer (some (ad b 0))]⟩] K cs) (n≤1000000000000∧∀i:Int,-1≤i→i<n→K (.int .i64 i) cs):=⟨fun⟨hn,h⟩=>up0 (f320 (by
 unfold s320
 refine lp (fun i:Nat=>[.int .i64 i]) (fun _=>cs) (fun i=>i≤n) (fun i=>n-i) 0 rfl (Imp.refl _) (Nat.zero_le _) fun i hi=> ?_
 refine go ⟨fun c0=> ?_,fun c0=>fin (h _ (by omega) (by omega))⟩
 have hlt:i<n:=by simpa using c0
 refine⟨⟨by omega,by omega⟩,fun _ _=> ?_⟩
 simp only [List.cons_append,List.nil_append]
 exact go fun q=>⟨fun _=>fin (h _ (by omega) (by omega)),fun _=>⟨i+1,by rw [w64_succ (by omega)],Imp.refl _,by omega,by omega⟩⟩))⟩
instance c223 {a:Option Addr} {n c:Nat} {l:List ScE} {s:ByteArray} [r:Rw 276 8 cs a n c encScr l]:Go1 (fn 223 [.slice a n c,.string s] K cs) (n≤1000000000000∧∀(i:Int) (q:Bool),K (.tuple ⟨[.int .i64 i,.bool q]⟩) cs):=⟨fun⟨hn,h⟩=>up0 (f223 (by
 unfold s223
 exact go fun b=>⟨hn,fun i _ _=>fin (h _ _)⟩))⟩
instance c224 {a:Option Addr} {n c:Nat} {l:List ByteArray} {z:Int} [r:Rw 9 1 cs a n c encS l]:Go1 (fn 224 [.agg ⟨[.int .i64 z,.slice a n c]⟩] K cs) (n≤1000000000000∧∀v:Int,K (.int .i64 v) cs):=⟨fun⟨hn,h⟩=>up0 (f224 (by
 unfold s224
 exact go fun b=>⟨hn,fun i _ _=>fin (h _)⟩))⟩
end
def ptsC (l:List PtX):Chunk:=l.flatMap PtX.ch
theorem ptsC_snoc (l:List PtX) (p:PtX):ptsC (l++[p])=ptsC l++p.ch:=by simp [ptsC]
def scsC (l:List ScE):Chunk:=l.flatMap fun y=>y.sc.ch
theorem scsC_snoc (l:List ScE) (p:ScE):scsC (l++[p])=scsC l++p.sc.ch:=by simp [scsC]
theorem lsum_app (l m:List ByteArray):lsum (l++m)=lsum l+lsum m:=by simp [lsum]
theorem lsum_drop (l:List ByteArray) {i:Nat} {x:ByteArray} (h:l[i]? =some x):lsum (l.drop i)=(x.size+1)+lsum (l.drop (i+1)):=by
 have hlt:=lt_of_get h
 have hx:l[i]=x:=by rw [List.getElem?_eq_getElem hlt]at h;exact Option.some.inj h
 rw [List.drop_eq_getElem_cons hlt,hx]
 simp [lsum]
theorem lens_sum:∀l:List ByteArray,Lib.lens (l.map (·.data.toList))+l.length=lsum l
 | []=>rfl
 | x::l=>by
  have ih:=lens_sum l
  have e:x.data.toList.length=x.size:=rfl
  simp only [Lib.lens,lsum,List.map_cons,List.sum_cons,List.length_cons]at ih ⊢
  omega
theorem join_len (l:List ByteArray):(Lib.join (l.map (·.data.toList)) [10]).length≤lsum l:=by
 cases l with
 | nil=>simp [Lib.join_nil]
 | cons x l=>
  rw [List.map_cons,Lib.join_length]
  have:=lens_sum (x::l)
  simp only [List.map_cons,List.length_cons]at this
  simp only [List.length_map,List.length_cons,List.length_nil]
  omega
structure CutS where
 i:Nat
 oa:Option Addr
 oc:Nat
 och:Chunk
 L:List PtX
 row:Row 272 2 oa L.length oc encPt L och
 at_:PtX
section
variable {cs:St} {K:Value→SP}
theorem c142t {s:ByteArray} (g:Glob cs) (hs:s.size≤99998) (h:∀(a:Option Addr) (c:Nat) (ch:Chunk) (P:Chunk) (L:List PtX),Row 272 2 a L.length c encPt L ch→(∀p∈L,lsum p.ls≤s.size+1)→(∀p∈L,∀y∈p.ch,y∈P)→L.length≤100000→K (.slice a L.length c) (ch::P::cs)):fn 142 [.string s] K cs:=up0 (f142 (by
 unfold s142
 refine go fun b1=> ?_
 refine c217t inferInstance (by omega) fun a c ch L hr hsum=> ?_
 have hr:=hr
 have hlen:=sum_len L
 let p0:PtX:=⟨1,none,0,[],[],⟨Sl.nil⟩⟩
 let x0:CutS:=⟨0,none,0,[],[],⟨Sl.nil⟩,p0⟩
 refine go ?_
 refine lp (α:=CutS) (fun x=>[.slice x.oa x.L.length x.oc,.int .i64 x.i]) (fun x=>bk b1 272 [.int .i64 x.at_.line,.slice x.at_.a x.at_.ls.length x.at_.c]::x.at_.ch::x.och::ptsC x.L::ch::cs)
  (fun x=>x.i≤L.length∧x.L.length≤x.i∧(∀p∈x.L,lsum p.ls≤s.size+1)∧lsum x.at_.ls+lsum (L.drop x.i)≤s.size+1) (fun x=>L.length-x.i) x0 rfl ?_ ⟨Nat.zero_le _,Nat.le_refl _,(fun p hp=>nomatch hp),?_⟩ ?_
 ·have e0:ptsC x0.L=[]:=rfl
  rw [e0]
  dsimp only [x0,p0,List.length_nil]
  exact Imp.trans (b:=bk b1 272 [.int .i64 1,.slice none 0 0]::ch::cs) drp drp
 ·simp only [x0,p0,lsum,List.map_nil,List.sum_nil,List.drop_zero]
  omega
 rintro⟨i,oa,oc,och,M,row,⟨ln,pa,pc,ls,pch,prow⟩⟩ ⟨h1,h2,h3,h4⟩
 dsimp only at h1 h2 h3 h4 row prow ⊢
 have row:=row
 have prow:=prow
 have hls:=sum_len ls
 refine go ⟨fun c0=>⟨⟨by omega,by simpa using c0⟩,fun s1 hs1=> ?_⟩,fun c0=> ?_⟩
 ·have hlt:i<L.length:=by simpa using c0
  have hd:=lsum_drop L (i:=i) (x:=s1) (by simpa using hs1)
  refine⟨fun v c=>∃x:CutS,v=[.slice x.oa x.L.length x.oc]∧Imp c (bk b1 272 [.int .i64 x.at_.line,.slice x.at_.a x.at_.ls.length x.at_.c]::x.at_.ch::x.och::ptsC x.L::ch::cs)∧x.L.length≤i+1∧(∀p∈x.L,lsum p.ls≤s.size+1)∧lsum x.at_.ls+lsum (L.drop i)≤s.size+1,fun v c hc=> ?_,?_⟩
  ·obtain⟨⟨_,oa2,oc2,och2,M2,row2,⟨ln2,pa2,pc2,ls2,pch2,prow2⟩⟩,rfl,hi,g1,g2,g3⟩:=hc
   dsimp only at g1 g2 g3 hi row2 prow2 ⊢
   have row2:=row2
   have prow2:=prow2
   have hls2:=sum_len ls2
   refine⟨_,hi,?_⟩
   have hls3:ls2.length≤100000:=by unfold lsum at g3;omega
   refine go ⟨⟨by decide,by omega,by omega⟩,s1,rfl,fun a' c' ch' r2=> ?_⟩
   have e1:ls2.length+1=(ls2++[s1]).length:=by simp
   have r3:Row 9 1 a' (ls2++[s1]).length c' encS (ls2++[s1]) ch':=by rw [←e1];exact r2
   refine⟨⟨i+1,oa2,oc2,och2,M2,row2,⟨ln2,a',c',ls2++[s1],ch',r3⟩⟩,by rw [w64_succ (by omega)],?_,⟨hlt,g1,g2,?_⟩,by show _-(i+1)<_;omega⟩
   ·dsimp only
    rw [←e1]
    exact Imp.refl _
   ·dsimp only
    rw [lsum_app]
    have:lsum [s1]=s1.size+1:=rfl
    omega
  ·have hM:M.length≤100000:=by omega
   refine go fun q=>⟨fun _=> ?_,fun _=>⟨⟨i,oa,oc,och,M,row,⟨ln,pa,pc,ls,pch,prow⟩⟩,rfl,Imp.refl _,Nat.le_succ_of_le h2,h3,h4⟩⟩
   refine⟨⟨by decide,by omega,by omega⟩,⟨ln,pa,pc,ls,pch,prow⟩,rfl,fun a' c' ch' r2=> ?_⟩
   have e1:M.length+1=(M++[(⟨ln,pa,pc,ls,pch,prow⟩:PtX)]).length:=by simp
   have r3:Row 272 2 a' (M++[(⟨ln,pa,pc,ls,pch,prow⟩:PtX)]).length c' encPt (M++[⟨ln,pa,pc,ls,pch,prow⟩]) ch':=by rw [←e1];exact r2
   refine⟨⟨i,a',c',ch',M++[⟨ln,pa,pc,ls,pch,prow⟩],r3,⟨w64 ((i:Int)+1),none,0,[],[],⟨Sl.nil⟩⟩⟩,by rw [←e1],?_,?_,?_,?_⟩
   ·dsimp only
    rw [ptsC_snoc]
    dsimp only [List.length_nil]
    exact drp
   ·dsimp only;rw [←e1];omega
   ·intro p hp
    rcases List.mem_append.1 hp with hp | hp
    ·exact h3 p hp
    ·rw [List.mem_singleton]at hp;subst hp;dsimp only;omega
   ·have:lsum []=0:=rfl
    dsimp only
    omega
 ·have hM:M.length≤100000:=by omega
  refine⟨⟨by decide,by omega,by omega⟩,⟨ln,pa,pc,ls,pch,prow⟩,rfl,fun a' c' ch' r2=> ?_⟩
  generalize hN:M++[(⟨ln,pa,pc,ls,pch,prow⟩:PtX)]=N at r2
  have eN:M.length+1=N.length:=by rw [←hN];simp
  rw [eN]at r2 ⊢
  have r2:=r2
  have hNs:∀p∈N,lsum p.ls≤s.size+1:=fun p hp=>by
   rw [←hN]at hp
   rcases List.mem_append.1 hp with hp | hp
   ·exact h3 p hp
   ·rw [List.mem_singleton]at hp;subst hp;dsimp only;omega
  have hNc:∀p∈N,∀y∈p.ch,y∈ptsC M++pch:=fun p hp y hy=>by
   rw [←hN]at hp
   rcases List.mem_append.1 hp with hp | hp
   ·exact List.mem_append_left _ (List.mem_flatMap.2 ⟨p,hp,hy⟩)
   ·rw [List.mem_singleton]at hp;subst hp;exact List.mem_append_right _ hy
  have h0:0<N.length:=by omega
  obtain⟨rb,o,X,Z,t1,t2,t3,t4⟩:=r2.split h0
  have hp0:N[0]∈N:=List.getElem_mem h0
  generalize N[0]=p0 at t3 hp0
  have rl:Rw 9 1 (bk b1 272 [.int .i64 ln,.slice pa ls.length pc]::pch::ch'::ptsC M::ch::cs) p0.a p0.ls.length p0.c encS p0.ls:=⟨(Row.rd p0.row (inferInstance:ChAt [p0.ch] p0.ch _)).sub fun y hy=>by
   have:=hNc p0 hp0 y (by simpa using hy)
   simp only [List.flatten_cons,List.mem_append]at this ⊢
   rcases this with h | h
   ·exact .inr (.inr (.inr (.inl h)))
   ·exact .inr (.inl h)⟩
  have hp0l:=sum_len p0.ls
  have hp0s:=hNs p0 hp0
  subst t1
  refine ix_at (sz:=2) (by omega) (by omega) ?_
  have e0:o+(0:Int).toNat*2=X.length:=t2
  rw [e0]
  subst t3
  have rl:=rl
  refine go ⟨by unfold lsum at hp0s;omega,fun q=>⟨fun _=>⟨⟨by omega,by omega⟩,fun a2 r5=> ?_⟩,fun _=>⟨_::(ptsC M++pch)::cs,drp,h _ _ _ (ptsC M++pch) N r2 hNs hNc (by omega)⟩⟩⟩
  have e5:(1:Int).toNat=1:=rfl
  rw [e5]at r5 ⊢
  have e6:N.length-1=(N.drop 1).length:=by simp
  rw [e6]at r5 ⊢
  exact⟨_::(ptsC M++pch)::cs,drp,h _ _ _ (ptsC M++pch) (N.drop 1) r5 (fun p hp=>hNs p (List.mem_of_mem_drop hp)) (fun p hp=>hNc p (List.mem_of_mem_drop hp)) (by rw [←e6];omega)⟩))
end
section
variable {cs:St} {K:Value→SP}
theorem c143t {p:PtX} {a:Option Addr} {n c:Nat} {l:List ScE} (rp:Rw 9 1 cs p.a p.ls.length p.c encS p.ls) (ra:Rw 276 8 cs a n c encScr l) (g:Glob cs) (hs:lsum p.ls≤99999) (hn:n≤1000)
  (h:∀y:ScE,y.sc.p.Fit→K (.agg ⟨encScr.f y⟩) (y.sc.ch::cs)):fn 143 [.agg ⟨encPt.f p⟩,.slice a n c] K cs:=up0 (f143 (by
 have hl:=sum_len p.ls
 have hpl:p.ls.length≤99999:=by unfold lsum at hs;omega
 have hj:=join_len p.ls
 have rp:=rp
 have ra:=ra
 unfold s143
 refine go fun b1 b2 b3=> ?_
 refine c222t inferInstance (by omega) (by show(Lib.join _ [10]).length≤_;omega) ?_
 refine go ?_
 refine c221t inferInstance (by show(Lib.join _ [10]).length≤_;omega) fun sc s1 s2 e hf=> ?_
 refine go fun b4 b5=>⟨fun _=> ?_,fun _=>⟨by omega,fun _ _=>⟨fun _=>⟨by omega,fun v=> ?_⟩,fun _=> ?_⟩⟩⟩
 ·exact⟨[]::cs,drp,h ⟨zeroSc,_,_,_,_⟩ zeroSc_fit⟩
 ·exact⟨[]::cs,drp,h ⟨zeroSc,_,_,_,_⟩ zeroSc_fit⟩
 ·exact⟨sc.ch::cs,drp,h ⟨sc,_,_,_,_⟩ hf⟩))
theorem c83t {s:ByteArray} (g:Glob cs) (h:∀(a:Option Addr) (c:Nat) (ch:Chunk) (l:List ScE) (e:Int),Row 276 8 a l.length c encScr l ch→(∀y∈l,y.sc.p.Fit)→l.length≤64→K (.tuple ⟨[.slice a l.length c,.int .i64 e]⟩) (ch::scsC l::cs)):fn 83 [.string s] K cs:=up0 (f83 (by
 have h0:Up K (.tuple ⟨[.slice none 0 0,.int .i64 4]⟩) cs:=⟨[]::[]::cs,drp,h none 0 [] [] 4 ⟨Sl.nil⟩ (fun y hy=>nomatch hy) (Nat.zero_le _)⟩
 unfold s83
 refine go ⟨fun _=>h0,fun c0=> ?_⟩
 have hs:s.size≤40000:=by simp only [decide_eq_false_iff_not]at c0;omega
 refine c142t g (by omega) fun a c ch P L hr hsum hP hlen=> ?_
 have hr:=hr
 refine go ⟨fun _=>⟨[]::[]::cs,drp,h none 0 [] [] 4 ⟨Sl.nil⟩ (fun y hy=>nomatch hy) (Nat.zero_le _)⟩,fun c1=> ?_⟩
 have hL:L.length≤64:=by simp only [decide_eq_false_iff_not]at c1;omega
 refine lp (α:=Nat×(Option Addr×Nat×Chunk)×List ScE) (fun x=>[.slice x.2.1.1 x.2.2.length x.2.1.2.1,.int .i64 x.1]) (fun x=>x.2.1.2.2::scsC x.2.2::ch::P::cs)
  (fun x=>x.1≤L.length∧x.2.2.length=x.1∧Row 276 8 x.2.1.1 x.2.2.length x.2.1.2.1 encScr x.2.2 x.2.1.2.2∧∀y∈x.2.2,y.sc.p.Fit) (fun x=>L.length-x.1) (0,(none,0,[]),[]) rfl ?_ ⟨Nat.zero_le _,rfl,⟨Sl.nil⟩,(fun y hy=>nomatch hy)⟩ ?_
 ·have e0:scsC []=[]:=rfl
  dsimp only
  rw [e0]
  exact drp
 rintro⟨i,⟨oa,oc,och⟩,l⟩ ⟨h1,h2,h3,h4⟩
 dsimp only at h1 h2 h3 h4 ⊢
 have h3:=h3
 refine go ⟨fun c2=>⟨⟨by omega,by simpa using c2⟩,fun p hp b1=> ?_⟩,fun c2=>⟨och::scsC l::cs,drp,h oa oc och l 0 h3 h4 (by omega)⟩⟩
 have hlt:i<L.length:=by simpa using c2
 have hpm:p∈L:=List.mem_of_getElem? hp
 have rp:Rw 9 1 (bk b1 272 (encPt.f p)::och::scsC l::ch::P::cs) p.a p.ls.length p.c encS p.ls:=⟨(Row.rd p.row (inferInstance:ChAt [p.ch] p.ch _)).sub fun y hy=>by
   have:=hP p hpm y (by simpa using hy)
   simp only [List.flatten_cons,List.mem_append]
   exact .inr (.inr (.inr (.inr (.inl this))))⟩
 refine c143t rp inferInstance inferInstance (by have:=hsum p hpm;omega) (by omega) fun y hy=> ?_
 refine go ⟨⟨by decide,by omega,by omega⟩,y,rfl,fun a' c' ch' r2=> ?_⟩
 have e1:l.length+1=(l++[y]).length:=by simp
 have r3:Row 276 8 a' (l++[y]).length c' encScr (l++[y]) ch':=by rw [←e1];exact r2
 refine⟨(i+1,(a',c',ch'),l++[y]),by rw [←e1,w64_succ (by omega)],?_,⟨hlt,by dsimp only;rw [←e1];omega,r3,fun z hz=> ?_⟩,by show _-(i+1)<_;omega⟩
 ·dsimp only
  rw [scsC_snoc]
  exact drp
 ·rcases List.mem_append.1 hz with hz | hz
  ·exact h4 z hz
  ·rw [List.mem_singleton]at hz;subst hz;exact hy))
end
structure Cn where
 r:Option Nat
 l:List (Int×Int)
 ch:Chunk
 lk:(r=none∧l=[])∨∃q M,r=some q∧Mp.l M=l∧ch=mpC mvI q M
def Cn.zero:Cn:=⟨none,[],[],.inl ⟨rfl,rfl⟩⟩
section
variable {cs:St} {K:Value→SP} {k:Int}
theorem nilLook {t:Nat} {z:Value} (ht:mapT t=some z) (h:K z cs):qy (Instr.lookup t (.map none) (.int .i64 k) false) K cs:=by
 obtain⟨kt,e,h1,h2,h3⟩:=mapT_spec ht
 refine⟨_,fun E w hw=> ?_,h⟩
 simp [Instr.lookup,run_under h1,Go.MapKept.run_checkKey h2 (show Go.MapKept.IsKey (.int .i64) (.int .i64 k)from rfl),Go.MapKept.run_findKey h2 (show Instr.findNow (.int .i64) (.int .i64 k) [] 0=some none from rfl),run_zero h3,Result.andThen]
theorem ob_in {X:Type} {C:Nat→X→Chunk} {b:Nat} {x:X} (h:In cs (C b x)):∃put,Ob C cs b x put:=by
 obtain⟨j,hj,he⟩:=List.mem_iff_getElem.1 h.h
 exact⟨fun c=>cs.set j c,⟨j,by rw [List.getElem?_eq_getElem hj,he],fun _=>rfl⟩⟩
instance cnLook (x:Cn) [i:In cs x.ch]:Go1 (qy (Instr.lookup 88 (.map x.r) (.int .i64 k) false) K cs) (K (.int .i64 ((iget x.l k).getD 0)) cs):=⟨fun h=>by
 rcases x.lk with ⟨h1,h2⟩ | ⟨q,M,h1,h2,h3⟩
 ·rw [h1]
  rw [h2]at h
  exact nilLook (by kernel_rfl) h
 ·rw [h1]
  rw [h3]at i
  rw [←h2]at h
  obtain⟨put,o⟩:=ob_in i
  exact go1 (B:=K (mvI.f ((iget M.l k).getD mvI.d)) cs) (i:=mpLook1) h⟩
end
section
variable {F:St} {b:Nat} {K:Value→SP} {a:Option Addr} {n c:Nat} {l:List Int}
theorem c183r {p1 p2 p3 p6 p7:Value} {most:Int} (x:Cn) (r:Rw 3 1 F a n c encI64 l) (hn:n≤4000000000000) (h:∀x':Cn,x'.l=(countV x.l most l).1→K undef (bk b 207 [p1,p2,p3,.map x'.r,.int .i64 (countV x.l most l).2,p6,p7]::x'.ch::F)):
  fn 183 [.pointer (some ((ad b 0).add 3)),.slice a n c] K (bk b 207 [p1,p2,p3,.map x.r,.int .i64 most,p6,p7]::x.ch::F):=up0 (f183 (by
 unfold s183
 have hl:=r.h.len
 refine go fun q M0 hM0=> ?_
 refine lp (fun y:Nat×Mp mvI×Int=>[.int .i64 y.1]) (fun y=>mpC mvI q y.2.1::bk b 207 [p1,p2,p3,.map x.r,.int .i64 y.2.2,p6,p7]::x.ch::F) (fun y=>y.1≤n∧(l.drop y.1).foldl (count1 x.l) (y.2.1.l,y.2.2)=countV x.l most l) (fun y=>n-y.1)
  (0,M0,most) rfl (Imp.refl _) ⟨Nat.zero_le _,by rw [List.drop_zero,hM0];rfl⟩ ?_
 rintro⟨i,M,m⟩ ⟨i1,i2⟩
 dsimp only at *
 refine go ?_
 simp only [decide_eq_true_eq,decide_eq_false_iff_not,Int.toNat_natCast,id]
 refine⟨fun c0=>⟨by omega,fun y hy M' hM'=> ?_⟩,fun c0=> ?_⟩
 ·have hil:=lt_of_get hy
  have ed:l.drop i=y::l.drop (i+1):=by
   rw [List.drop_eq_getElem_cons hil]
   rw [List.getElem?_eq_getElem hil]at hy
   rw [Option.some.inj hy]
  rw [ed,List.foldl_cons]at i2
  have eg:(iget M'.l y).getD 0=w64 ((iget x.l y).getD 0+1):=by rw [hM',iget_set,if_pos rfl];rfl
  rw [eg]
  refine⟨(i+1,M',_),by rw [w64_succ (by omega)],Imp.refl _,⟨by simp only;omega,?_⟩,by simp only;omega⟩
  simp only
  rw [hM',←i2]
  rfl
 ·have e:i=n:=by omega
  subst e
  rw [hl,List.drop_length,List.foldl_nil]at i2
  have:=h ⟨some q,M.l,mpC mvI q M,.inr ⟨q,M,rfl,rfl,rfl⟩⟩ (by rw [←i2])
  rw [←i2]at this
  exact fin this))
theorem c183w {p1 p2 p3 p4 p5:Value} {most:Int} (x:Cn) (r:Rw 3 1 F a n c encI64 l) (hn:n≤4000000000000) (h:∀x':Cn,x'.l=(countV x.l most l).1→K undef (bk b 207 [p1,p2,p3,p4,p5,.map x'.r,.int .i64 (countV x.l most l).2]::x'.ch::F)):
  fn 183 [.pointer (some ((ad b 0).add 5)),.slice a n c] K (bk b 207 [p1,p2,p3,p4,p5,.map x.r,.int .i64 most]::x.ch::F):=up0 (f183 (by
 unfold s183
 have hl:=r.h.len
 refine go fun q M0 hM0=> ?_
 refine lp (fun y:Nat×Mp mvI×Int=>[.int .i64 y.1]) (fun y=>mpC mvI q y.2.1::bk b 207 [p1,p2,p3,p4,p5,.map x.r,.int .i64 y.2.2]::x.ch::F) (fun y=>y.1≤n∧(l.drop y.1).foldl (count1 x.l) (y.2.1.l,y.2.2)=countV x.l most l) (fun y=>n-y.1)
  (0,M0,most) rfl (Imp.refl _) ⟨Nat.zero_le _,by rw [List.drop_zero,hM0];rfl⟩ ?_
 rintro⟨i,M,m⟩ ⟨i1,i2⟩
 dsimp only at *
 refine go ?_
 simp only [decide_eq_true_eq,decide_eq_false_iff_not,Int.toNat_natCast,id]
 refine⟨fun c0=>⟨by omega,fun y hy M' hM'=> ?_⟩,fun c0=> ?_⟩
 ·have hil:=lt_of_get hy
  have ed:l.drop i=y::l.drop (i+1):=by
   rw [List.drop_eq_getElem_cons hil]
   rw [List.getElem?_eq_getElem hil]at hy
   rw [Option.some.inj hy]
  rw [ed,List.foldl_cons]at i2
  have eg:(iget M'.l y).getD 0=w64 ((iget x.l y).getD 0+1):=by rw [hM',iget_set,if_pos rfl];rfl
  rw [eg]
  refine⟨(i+1,M',_),by rw [w64_succ (by omega)],Imp.refl _,⟨by simp only;omega,?_⟩,by simp only;omega⟩
  simp only
  rw [hM',←i2]
  rfl
 ·have e:i=n:=by omega
  subst e
  rw [hl,List.drop_length,List.foldl_nil]at i2
  have:=h ⟨some q,M.l,mpC mvI q M,.inr ⟨q,M,rfl,rfl,rfl⟩⟩ (by rw [←i2])
  rw [←i2]at this
  exact fin this))
end
theorem qy_imp2 {s:Sem Value} {K:Value→SP} {cs cs':St} {v:Value} (hi:Imp cs cs') (h:qy s (fun u _=>u=v) cs') (k:K v cs):qy s K cs:=by
 cases h with
 | mk u hu e=>subst e;exact⟨u,fun E w hw=>hu E w (hi E w hw),k⟩
def wsC (l:List (Nat×Wi)):Chunk:=l.flatMap fun p=>wireC p.1 p.2
structure Wx where
 W:Mp mvP
 ws:List (Nat×Wi)
 wq:Nat
 h1:∀k v,iget W.l k=some v→∃p∈ws,v=some (ad p.1 0)
 h2:∀p∈ws,p.2.q.length≤wq
abbrev wxParts (r:Nat) (x:Wx):St:=[mpC mvP r x.W,wsC x.ws]
def wxC (r:Nat) (x:Wx):Chunk:=(wxParts r x).flatten
abbrev wxFoc (r:Nat) (x:Wx) (i:Nat) (p:Nat×Wi):St:=[mpC mvP r x.W,wsC (x.ws.take i),wireC p.1 p.2,wsC (x.ws.drop (i+1))]
theorem ws_split {l:List (Nat×Wi)} {i:Nat} {p:Nat×Wi} (h:l[i]? =some p):wsC l=wsC (l.take i)++(wireC p.1 p.2++wsC (l.drop (i+1))):=by
 obtain⟨hl,he⟩:=List.getElem?_eq_some_iff.1 h
 have:l=l.take i++(p::l.drop (i+1)):=by rw [←he,←List.drop_eq_getElem_cons hl,List.take_append_drop]
 have h2:=congrArg wsC this
 rw [h2]
 simp [wsC]
theorem wxFoc_eq {r:Nat} {x:Wx} {i:Nat} {p:Nat×Wi} (h:x.ws[i]? =some p):(wxFoc r x i p).flatten=wxC r x:=by
 unfold wxC wxFoc wxParts
 simp only [List.flatten_cons,List.flatten_nil,List.append_nil,ws_split h,List.append_assoc]
theorem Wx.at_ (x:Wx) (k:Int):(iget x.W.l k).getD none=none∨∃(i:Nat) (p:Nat×Wi),x.ws[i]? =some p∧(iget x.W.l k).getD none=some (ad p.1 0):=by
 cases h:iget x.W.l k with
 | none=>exact .inl rfl
 | some v=>
  obtain⟨p,hp,e⟩:=x.h1 k v h
  obtain⟨i,hi,hg⟩:=List.mem_iff_getElem.1 hp
  exact .inr ⟨i,p,by rw [List.getElem?_eq_getElem hi,hg],by rw [e];rfl⟩
def Wx.up (x:Wx) (i:Nat) (p:Nat×Wi) (hp:x.ws[i]? =some p) (y:Wi) (q:Nat) (hq:x.wq≤q) (hy:y.q.length≤q):Wx:=
 {W:=x.W,ws:=x.ws.set i (p.1,y),wq:=q
  h1:=fun k v h=>by
   obtain⟨z,hz,e⟩:=x.h1 k v h
   obtain⟨j,hj,hg⟩:=List.mem_iff_getElem.1 hz
   by_cases c:i=j
   ·subst c
    rw [List.getElem?_eq_getElem hj]at hp
    have:z=p:=hg.symm.trans (Option.some.inj hp)
    subst this
    exact⟨(z.1,y),List.mem_set hj _,e⟩
   ·exact⟨z,List.mem_iff_getElem.2 ⟨j,by simpa using hj,by rw [List.getElem_set_ne c];exact hg⟩,e⟩
  h2:=fun z hz=>by
   rcases List.mem_or_eq_of_mem_set hz with h | h
   ·exact Nat.le_trans (x.h2 z h) hq
   ·subst h;exact hy}
theorem up_foc {x:Wx} {i:Nat} {p:Nat×Wi} {hp:x.ws[i]? =some p} {y:Wi} {q:Nat} {hq:x.wq≤q} {hy:y.q.length≤q} {r:Nat}:wxFoc r (x.up i p hp y q hq hy) i (p.1,y)=[mpC mvP r x.W,wsC (x.ws.take i),wireC p.1 y,wsC (x.ws.drop (i+1))]:=by
 have h1:(x.ws.set i (p.1,y)).take i=x.ws.take i:=by
  apply List.ext_getElem?;intro j
  by_cases hj:j<i
  ·rw [List.getElem?_take_of_lt hj,List.getElem?_take_of_lt hj,List.getElem?_set_ne (by omega)]
  ·rw [List.getElem?_eq_none (by simp;omega),List.getElem?_eq_none (by simp;omega)]
 have h2:(x.ws.set i (p.1,y)).drop (i+1)=x.ws.drop (i+1):=by
  apply List.ext_getElem?;intro j
  rw [List.getElem?_drop,List.getElem?_drop,List.getElem?_set_ne (by omega)]
 unfold wxFoc
 simp only [Wx.up,h1,h2]
theorem up_get {x:Wx} {i:Nat} {p:Nat×Wi} {hp:x.ws[i]? =some p} {y:Wi} {q:Nat} {hq:x.wq≤q} {hy:y.q.length≤q}:(x.up i p hp y q hq hy).ws[i]? =some (p.1,y):=by
 have:=lt_of_get hp
 simp [Wx.up,this]
class Wo (cs:St) (x:Wx) (r:outParam Nat) (put:outParam (Chunk→St)):Prop where
 h:Ob wxC cs r x put
instance {cs:St} {r:Nat} {x:Wx}:Wo (wxC r x::cs) x r (fun c=>c::cs):=⟨inferInstance⟩
instance {cs:St} {r:Nat} {x:Wx} {d:Chunk} {put:Chunk→St} [i:Wo cs x r put]:Wo (d::cs) x r (fun c=>d::put c):=⟨by have:=i.h;infer_instance⟩
section
variable {cs:St} {r:Nat} {x:Wx} {put:Chunk→St} {K:Value→SP} {k:Int}
theorem n178 (h:K (.int .i64 0) cs):fn 178 [.pointer none] K cs:=fnOf (an:=⟨[],[]⟩) (s:=K (.int .i64 0)) Tryz.func178 (by kernel_rfl) (by kernel_rfl) h
theorem n179 (h:K (.bool false) cs):fn 179 [.pointer none] K cs:=fnOf (an:=⟨[],[]⟩) (s:=K (.bool false)) Tryz.func179 (by kernel_rfl) (by kernel_rfl) h
theorem n181 {n:Int} (h:K (.string (bs [])) cs):fn 181 [.pointer none,.int .i64 n] K cs:=fnOf (an:=⟨[],[]⟩) (s:=K (.string (bs []))) Tryz.func181 (by kernel_rfl) (by kernel_rfl) h
theorem n153 {s:ByteArray} {e:Bool} (h:K (.bool false) cs):fn 153 [.pointer none,.string s,.bool e] K cs:=fnOf (an:=⟨[],[]⟩) (s:=K (.bool false)) Tryz.func153 (by kernel_rfl) (by kernel_rfl) h
instance wxLook [o:Ob wxC cs r x put]:Go1 (qy (Instr.lookup 202 (.map (some r)) (.int .i64 k) false) K cs) (K (.pointer ((iget x.W.l k).getD none)) cs):=⟨fun h=>by
 obtain⟨i,hi,_⟩:=o.h
 exact qy_imp2 (Imp.part (parts:=wxParts r x) hi) (by simp only [wxParts,List.cons_append,List.nil_append];exact go rfl) h⟩
instance wx178 [o:Wo cs x r put]:Go1 (fn 178 [.pointer ((iget x.W.l k).getD none)] K cs) (∀n:Nat,K (.int .i64 n) cs):=⟨fun h=>by
 rcases x.at_ k with e | ⟨i,p,hp,e⟩
 ·rw [e];exact n178 (h 0)
 ·rw [e]
  have hs:=o.h.same
  exact o.h.fn (wxFoc r x i p) (wxFoc_eq hp) fun F=>by
   simp only [List.cons_append,List.nil_append]
   refine go ⟨_,Imp.refl _,by rw [wxFoc_eq hp,hs];exact h _⟩⟩
instance wx179 [o:Wo cs x r put]:Go1 (fn 179 [.pointer ((iget x.W.l k).getD none)] K cs) (∀b:Bool,K (.bool b) cs):=⟨fun h=>by
 rcases x.at_ k with e | ⟨i,p,hp,e⟩
 ·rw [e];exact n179 (h _)
 ·rw [e]
  have hs:=o.h.same
  exact o.h.fn (wxFoc r x i p) (wxFoc_eq hp) fun F=>by
   simp only [List.cons_append,List.nil_append]
   refine go ⟨_,Imp.refl _,by rw [wxFoc_eq hp,hs];exact h _⟩⟩
instance wx181 [o:Wo cs x r put] {n:Int}:Go1 (fn 181 [.pointer ((iget x.W.l k).getD none),.int .i64 n] K cs) (x.wq≤1000000000000∧∀s x',Wx.wq x'=x.wq→K (.string s) (put (wxC r x'))):=⟨fun⟨hq,h⟩=>by
 rcases x.at_ k with e | ⟨i,p,hp,e⟩
 ·rw [e];exact n181 (by have:=h (bs []) x rfl;rw [o.h.same]at this;exact this)
 ·rw [e]
  have h2:=x.h2 p (List.mem_of_getElem? hp)
  exact o.h.fn (wxFoc r x i p) (wxFoc_eq hp) fun F=>by
   simp only [List.cons_append,List.nil_append]
   refine go ⟨by omega,fun y hy _=>by
   have hl:y.q.length≤x.wq:=by rw [hy,List.length_drop];omega
   refine⟨[mpC mvP r x.W,wsC (x.ws.take i),wireC p.1 y,wsC (x.ws.drop (i+1))],Imp.refl _,?_⟩
   have:=h (sb (p.2.q.take (min n.toNat p.2.q.length))) (x.up i p hp y x.wq (Nat.le_refl _) hl) rfl
   rw [←wxFoc_eq up_get,up_foc]at this
   exact this⟩⟩
instance wx153 [o:Wo cs x r put] {s:ByteArray} {e:Bool}:Go1 (fn 153 [.pointer ((iget x.W.l k).getD none),.string s,.bool e] K cs) (x.wq≤1000000000000∧∀b x',Wx.wq x'=x.wq+s.size→K (.bool b) (put (wxC r x'))):=⟨fun⟨hq,h⟩=>by
 have h0:∀b,K (.bool b) cs:=fun b=>by
  have:=h b {x with wq:=x.wq+s.size,h2:=fun p hp=>Nat.le_trans (x.h2 p hp) (Nat.le_add_right _ _)} rfl
  have e:wxC r {x with wq:=x.wq+s.size,h2:=fun p hp=>Nat.le_trans (x.h2 p hp) (Nat.le_add_right _ _)}=wxC r x:=rfl
  rw [e,o.h.same]at this
  exact this
 rcases x.at_ k with e | ⟨i,p,hp,e⟩
 ·rw [e];exact n153 (h0 _)
 ·rw [e]
  have h2:=x.h2 p (List.mem_of_getElem? hp)
  have hs:=o.h.same
  exact o.h.fn (wxFoc r x i p) (wxFoc_eq hp) fun F=>by
   simp only [List.cons_append,List.nil_append]
   refine go ⟨fun _=>⟨_,Imp.refl _,by rw [wxFoc_eq hp,hs];exact h0 _⟩,fun _=>⟨by omega,fun y hy _=>by
   have hl:y.q.length≤x.wq+s.size:=by rw [hy,List.length_append,bl_length];omega
   refine⟨[mpC mvP r x.W,wsC (x.ws.take i),wireC p.1 y,wsC (x.ws.drop (i+1))],Imp.refl _,?_⟩
   have:=h true (x.up i p hp y (x.wq+s.size) (Nat.le_add_right _ _) hl) rfl
   rw [←wxFoc_eq up_get,up_foc]at this
   exact this⟩⟩⟩
instance (priority:=3000) wxNew [o:Ob wxC cs r x put] {q:Nat} {w:Wi} {K:SP}:Go1 (sm (do Instr.mapUpdate 202 (.map (some r)) (.int .i64 k) (.pointer (some (ad q 0)));pure undef) (fun _=>K) (wireC q w::cs)) (w.q.length≤x.wq∧∀x',Wx.wq x'=x.wq→K (put (wxC r x'))):=⟨fun⟨hw,h⟩=>by
 obtain⟨i,hi,hput⟩:=o.h
 have hl:=lt_of_get hi
 refine sm_up (sm_imp (cs':=mpC mvP r x.W::wsC x.ws::wireC q w::cs.set i []) ?_ ?_)
 ·have:=Imp.part (cs:=wireC q w::cs) (i:=i+1) (parts:=wxParts r x) hi
  refine this.trans ?_
  simp only [List.set_cons_succ,List.cons_append,List.nil_append]
  exact drp
 ·show sm _ (fun _=>Up (fun _=>K) undef) _
  refine go fun M' hM'=> ?_
  let x':Wx:=⟨M',x.ws++[(q,w)],x.wq,fun j v hj=>by
   rw [hM',iget_set]at hj
   split at hj
   ·cases hj;exact⟨(q,w),by simp,rfl⟩
   ·obtain⟨p,hp,e⟩:=x.h1 j v hj
    exact⟨p,by simp [hp],e⟩,fun p hp=>by
   rcases List.mem_append.1 hp with hp | hp
   ·exact x.h2 p hp
   ·simp at hp;subst hp;exact hw⟩
  refine⟨put (wxC r x'),?_,h x' rfl⟩
  rw [hput]
  have h3:=Imp.join (front:=[]) (parts:=wxParts r x') (cs:=cs) hl
  refine Imp.trans ?_ h3
  refine Imp.of_sub (l:=[]) ?_
  simp [x',wsC,wxParts]⟩
end
section
variable {F:St} {b r:Nat} {K:Value→SP}
theorem offSum_take {l:List OfferM} {i:Nat} {y:OfferM} (h:l[i]? =some y):offSum (l.take (i+1))=offSum (l.take i)+y.bytes.size:=by
 obtain⟨hi,e⟩:=List.getElem?_eq_some_iff.1 h
 rw [List.take_succ_eq_append_getElem hi,e]
 simp [offSum]
theorem c177t {p1 p4 p5 p6 p7 tr:Value} {t dr:Int} {ab:Bool} {a1 a2 a3 la ea:Option Addr} {n1 n2 n3 c1 c2 c3 ln lc en ec:Nat} {l:List Int} {lch:Chunk} {L:List EvM} {l2:List OfferM} (x:Wx)
  (r1:Row 3 1 la ln lc encI64 l lch) (r2:Rw 101 12 F ea en ec encEv L) (r3:Rw 85 3 F a2 n2 c2 encOff l2) (hb:ln≤1000000000∧en≤1000000000000∧n2≤1000000000∧x.wq+offSum l2≤1000000000000)
  (h:∀(x':Wx) la' lc' lch' L',x'.wq≤x.wq+offSum l2→Row 3 1 la' (ln+L'.length) lc' encI64 (l++L') lch'→L'.length≤en→K (.slice la' (ln+L'.length) lc') (lch'::bk b 207 [p1,.map (some r),tr,p4,p5,p6,p7]::wxC r x'::F)):
  fn 177 [.pointer (some (ad b 0)),.agg ⟨[.int .i64 t,.slice a1 n1 c1,.slice a2 n2 c2,.slice a3 n3 c3,.int .i64 dr,.bool ab]⟩,.slice la ln lc,.slice ea en ec] K (lch::bk b 207 [p1,.map (some r),tr,p4,p5,p6,p7]::wxC r x::F):=up0 (f177 (by
 unfold s177
 have hl:=r1.len
 have hL:=r2.h.len
 have h2:=r3.h.len
 refine go fun b1=> ?_
 refine lp (fun y:Nat×Option Addr×Nat×Chunk×List Int×Wx=>[.slice y.2.1 (ln+y.2.2.2.2.1.length) y.2.2.1,.int .i64 y.1]) (fun y=>y.2.2.2.1::bk b1 73 (roCells t a1 a2 a3 n1 n2 n3 c1 c2 c3 dr ab)::bk b 207 [p1,.map (some r),tr,p4,p5,p6,p7]::wxC r y.2.2.2.2.2::F)
  (fun y=>y.1≤en∧Row 3 1 y.2.1 (ln+y.2.2.2.2.1.length) y.2.2.1 encI64 (l++y.2.2.2.2.1) y.2.2.2.1∧y.2.2.2.2.1.length≤y.1∧y.2.2.2.2.2.wq=x.wq) (fun y=>en-y.1) (0,la,lc,lch,[],x) rfl drp ⟨Nat.zero_le _,by rw [List.append_nil];exact r1,Nat.le_refl _,rfl⟩ ?_
 rintro⟨i,a,c,ch,L',y⟩ ⟨i1,i2,i3,i4⟩
 dsimp only at *
 refine go ?_
 simp only [decide_eq_true_eq,decide_eq_false_iff_not,Int.toNat_natCast]
 refine⟨fun c0=>⟨by omega,fun z hz b2=> ?_⟩,fun c0=> ?_⟩
 ·rw [w64_succ (by omega)]
  refine⟨fun _ b3 w hw _=>⟨by rw [hw];exact Nat.zero_le _,fun y' hy'=>⟨⟨by omega,by omega,by omega⟩,z.id,rfl,fun a' c' ch' r'=>⟨(i+1,a',c',ch',L'++[z.id],y'),?_,drp,⟨by simp only;omega,?_,by simp;omega,by rw [hy',i4]⟩,by simp only;omega⟩⟩⟩,
   fun _=>⟨(i+1,a,c,ch,L',y),rfl,drp,⟨by simp only;omega,i2,by simp only;omega,i4⟩,by simp only;omega⟩⟩
  ·simp only [List.length_append,List.length_singleton];rfl
  ·simp only [List.length_append,List.length_singleton,←List.append_assoc];exact r'
 ·refine lp (fun y:Nat×Wx=>[.int .i64 y.1]) (fun y=>ch::bk b1 73 (roCells t a1 a2 a3 n1 n2 n3 c1 c2 c3 dr ab)::bk b 207 [p1,.map (some r),tr,p4,p5,p6,p7]::wxC r y.2::F)
   (fun y=>y.1≤n2∧y.2.wq≤x.wq+offSum (l2.take y.1)) (fun y=>n2-y.1) (0,y) rfl drp ⟨Nat.zero_le _,by simp only [i4];exact Nat.le_add_right _ _⟩ ?_
  rintro⟨j,z⟩ ⟨j1,j2⟩
  dsimp only at *
  have hs:offSum (l2.take j)≤offSum l2:=by
   have:offSum l2=offSum (l2.take j)+offSum (l2.drop j):=by
    conv=>lhs;rw [←List.take_append_drop j l2]
    rw [offSum,List.map_append,List.sum_append];rfl
   omega
  refine go ?_
  simp only [decide_eq_true_eq,decide_eq_false_iff_not,Int.toNat_natCast]
  refine⟨fun c1=>⟨by omega,fun o ho b2=>⟨by omega,?_⟩⟩,fun c1=> ?_⟩
  ·rw [w64_succ (by omega)]
   have hst:=offSum_take ho
   refine⟨fun _=>⟨by omega,fun _ z' hz'=>⟨(j+1,z'),rfl,drp,⟨by simp only;omega,by simp only;omega⟩,by simp only;omega⟩⟩,fun _=>⟨(j+1,z),rfl,drp,⟨by simp only;omega,by simp only;omega⟩,by simp only;omega⟩⟩
  ·exact fin (h z a c ch L' (by omega) i2 (by omega))))
instance engEv {x:En} {eb:Nat} {cs:St}:Rw 101 12 (engC eb x::cs) x.oa x.on x.oc encEv x.m.out:=⟨by
 have h:RdS [x.och] encEv x.oa x.on x.oc x.m.out:=Row.rd x.orow (cs:=[x.och]) (put:=fun c=>[c]) inferInstance
 exact h.sub (fun y hy=>by simp at hy;simp [engC,hy])⟩
end
section
variable {K:Value→SP} {put:Chunk→St} {cs:St} {b:Nat}
structure Wt where
 eb:Nat
 e:En
 wr:Nat
 wx:Wx
 tr:Nat
 T:Mp mvB
 rc:Cn
 rm:Int
 wc:Cn
 wm:Int
@[reducible] def wtCells (x:Wt):List Value:=[.pointer (some (ad x.eb 0)),.map (some x.wr),.map (some x.tr),.map x.rc.r,.int .i64 x.rm,.map x.wc.r,.int .i64 x.wm]
abbrev wtParts (b:Nat) (x:Wt):St:=[bk b 207 (wtCells x),engC x.eb x.e,wxC x.wr x.wx,mpC mvB x.tr x.T,x.rc.ch,x.wc.ch]
def wtC (b:Nat) (x:Wt):Chunk:=(wtParts b x).flatten
def Wt.f (x:Wt) (out:List EvM):FairM:=⟨x.e.m,x.wc.l,x.wm,out⟩
theorem wtShut {b:Nat} {x:Wt} {F:St}:Imp (wtParts b x++F) (wtC b x::F):=Imp.of_sub (l:=[]) (by simp [wtC,wtParts])
theorem wtLay {b:Nat} {x:Wt} {F:St}:Imp (wtC b x::F) (wtParts b x++F):=Imp.of_sub (l:=[]) (by simp [wtC,wtParts])
instance:PlT 65:=⟨by kernel_rfl⟩
theorem c105e {x:Wt} {e':En} {wy:Wx} {T:Mp mvB} {cx G:St} {K1:SP} {wa pa:Option Addr} {wn wc pn pc:Nat} {wl pl:List Int} (r1:Rw 3 1 G wa wn wc encI64 wl) (r2:Rw 3 1 G pa pn pc encI64 pl) (hn1:wn≤4000000000000) (hn2:pn≤4000000000000)
  (hi:Imp cx (bk b 207 (wtCells x)::x.rc.ch::x.wc.ch::wxC x.wr wy::mpC mvB x.tr T::engC x.eb e'::G))
  (h:∀x':Wt,x'.wc.l=(countV x.wc.l x.wm pl).1→x'.wm=(countV x.wc.l x.wm pl).2→x'.e=e'→x'.wx=wy→K1 (wtC b x'::G)):
  fn 183 [.pointer (some ((ad b 0).add 3)),.slice wa wn wc] (fun v=>unT v fun _=>fn 183 [.pointer (some ((ad b 0).add 5)),.slice pa pn pc] fun v=>unT v fun _=>K1) cx:=by
 refine fn_imp hi ?_
 refine c183r x.rc inferInstance hn1 fun rc' _=>⟨[],rfl,?_⟩
 refine fn_imp (cs':=bk b 207 [.pointer (some (ad x.eb 0)),.map (some x.wr),.map (some x.tr),.map rc'.r,.int .i64 (countV x.rc.l x.rm wl).2,.map x.wc.r,.int .i64 x.wm]::x.wc.ch::rc'.ch::wxC x.wr wy::mpC mvB x.tr T::engC x.eb e'::G) drp ?_
 refine fn_up (Imp.refl _) (c183w x.wc inferInstance hn2 fun wc' hw=> ?_)
 let x':Wt:=⟨x.eb,e',x.wr,wy,x.tr,T,rc',(countV x.rc.l x.rm wl).2,wc',(countV x.wc.l x.wm pl).2⟩
 exact⟨_,Imp.trans (by dsimp only [wtParts,wtCells,x',List.cons_append,List.nil_append];exact drp) (wtShut (b:=b) (x:=x') (F:=G)),⟨[],rfl,h x' hw rfl rfl rfl⟩⟩
theorem c105t {t dr:Int} {ab:Bool} {a1 a2 a3:Option Addr} {n1 n2 n3 c1 c2 c3:Nat} {l1:List Int} {l2:List OfferM} {l3:List ReportM} {A:Chunk} {F:St} (x:Wt) (v1:Vie 3 1 a1 n1 c1 encI64 l1 A) (v2:Vie 85 3 a2 n2 c2 encOff l2 A) (v3:Vie 87 4 a3 n3 c3 encRep l3 A) (q:In F A)
  (hb:(t≤never∧dr≤never)∧(n1≤1000000000∧n2≤1000000000∧n3≤1000000000)∧(x.e.m.round ⟨t,l1,l2,l3,dr,ab⟩).out.length<999999999990∧(∃N,x.e.m.qle N∧N+offSum l2≤1000000000000)∧x.wx.wq+offSum l2≤1000000000000)
  (h:∀x':Wt,(∀out,x'.f (out++x'.e.m.out)=(x.f out).round ⟨t,l1,l2,l3,dr,ab⟩)→x'.wx.wq≤x.wx.wq+offSum l2→x'.e.m=x.e.m.round ⟨t,l1,l2,l3,dr,ab⟩→K (.slice x'.e.oa x'.e.on x'.e.oc) (wtC b x'::F)):
  fn 105 [.pointer (some (ad b 0)),.agg ⟨roCells t a1 a2 a3 n1 n2 n3 c1 c2 c3 dr ab⟩] K (wtC b x::F):=up0 (fn_imp wtLay (f105 (by
 obtain⟨hb1,hb2,hb3,hb4,hb5⟩:=hb
 unfold s105
 have hll:=x.e.ok.live_le
 have hth:∀f,(x.e.m.those f).length≤1024:=fun f=>Nat.le_trans (List.length_filter_le _ _) hll
 simp only [wtParts,List.cons_append,List.nil_append]
 refine go fun b1 la ln lc lch rl ra rn rc rch rr pa pn pc pch rp=>⟨⟨hb1,hb2,hb3,hb4⟩,fun e' he'=> ?_⟩
 have hln:=rl.len
 have hrn:=rr.len
 have rr:=rr
 have rp:=rp
 have hpn:=rp.len
 have hrt:=hth Dia.room
 have hpt:x.e.m.writes.length≤1024:=hth _
 have hon:=e'.orow.len
 rw [he']at hon
 refine go ?_
 refine fn_imp (cs':=lch::bk b 207 (wtCells x)::wxC x.wr x.wx::engC x.eb e'::pch::rch::bk b1 73 (roCells t a1 a2 a3 n1 n2 n3 c1 c2 c3 dr ab)::mpC mvB x.tr x.T::x.rc.ch::x.wc.ch::F) drp ?_
 refine c177t (L:=e'.m.out) (l2:=l2) x.wx rl inferInstance inferInstance ⟨by omega,by omega,by omega,by omega⟩ fun wx la' lc' lch' L' hq rl' hL'=> ?_
 have hq2:wx.wq≤1000000000000:=by omega
 refine go ⟨⟨by omega,by omega⟩,fun ta rt=> ?_⟩
 have rt:=rt
 refine go ⟨⟨by omega,by omega⟩,fun qa qc qch rq=> ?_⟩
 have rq:=rq
 have hnq:rn+(ln+L'.length-(ln:Int).toNat)≤1000000002000:=by omega
 generalize hqn:rn+(ln+L'.length-(ln:Int).toNat)=qn at *
 generalize hql:(x.e.m.those Dia.room++List.drop (ln:Int).toNat (x.e.m.slots.live++L'))=ql at *
 clear rt rl' rl rr
 have hmo:e'.m.out=(x.e.m.round ⟨t,l1,l2,l3,dr,ab⟩).out:=by rw [he']
 refine lp (fun y:Nat×Option Addr×Nat×Nat×Chunk×List Int=>[.slice y.2.1 y.2.2.1 y.2.2.2.1,.int .i64 y.1]) (fun y=>y.2.2.2.2.1::qch::bk b 207 (wtCells x)::wxC x.wr wx::mpC mvB x.tr x.T::pch::engC x.eb e'::bk b1 73 (roCells t a1 a2 a3 n1 n2 n3 c1 c2 c3 dr ab)::x.rc.ch::x.wc.ch::F)
  (fun y=>y.1≤qn∧y.2.2.1≤y.1∧Row 3 1 y.2.1 y.2.2.1 y.2.2.2.1 encI64 y.2.2.2.2.2 y.2.2.2.2.1) (fun y=>qn-y.1) (0,none,0,0,[],[]) rfl drp ⟨Nat.zero_le _,Nat.zero_le _,⟨Sl.nil⟩⟩ ?_
 rintro⟨i,wa,wn,wc,wch,wl⟩ ⟨i1,i2,i3⟩
 dsimp only at *
 have nx:∀{c:St},Imp c (wch::qch::bk b 207 (wtCells x)::wxC x.wr wx::mpC mvB x.tr x.T::pch::engC x.eb e'::bk b1 73 (roCells t a1 a2 a3 n1 n2 n3 c1 c2 c3 dr ab)::x.rc.ch::x.wc.ch::F)→(i:Int)<qn→∃y:Nat×Option Addr×Nat×Nat×Chunk×List Int,[Value.slice wa wn wc,.int .i64 ((i+1:Nat):Int)]=[.slice y.2.1 y.2.2.1 y.2.2.2.1,.int .i64 y.1]∧Imp c (y.2.2.2.2.1::qch::bk b 207 (wtCells x)::wxC x.wr wx::mpC mvB x.tr x.T::pch::engC x.eb e'::bk b1 73 (roCells t a1 a2 a3 n1 n2 n3 c1 c2 c3 dr ab)::x.rc.ch::x.wc.ch::F)∧(y.1≤qn∧y.2.2.1≤y.1∧Row 3 1 y.2.1 y.2.2.1 y.2.2.2.1 encI64 y.2.2.2.2.2 y.2.2.2.2.1)∧qn-y.1<qn-i:=
  fun hi hl=>⟨(i+1,wa,wn,wc,wch,wl),rfl,hi,⟨by simp only;omega,by simp only;omega,i3⟩,by simp only;omega⟩
 have nxa:∀{c:St} (a':Option Addr) (c':Nat) (ch':Chunk) (z:Int),Row 3 1 a' (wn+1) c' encI64 (wl++[z]) ch'→Imp c (ch'::qch::bk b 207 (wtCells x)::wxC x.wr wx::mpC mvB x.tr x.T::pch::engC x.eb e'::bk b1 73 (roCells t a1 a2 a3 n1 n2 n3 c1 c2 c3 dr ab)::x.rc.ch::x.wc.ch::F)→(i:Int)<qn→∃y:Nat×Option Addr×Nat×Nat×Chunk×List Int,[Value.slice a' (wn+1) c',.int .i64 ((i+1:Nat):Int)]=[.slice y.2.1 y.2.2.1 y.2.2.2.1,.int .i64 y.1]∧Imp c (y.2.2.2.2.1::qch::bk b 207 (wtCells x)::wxC x.wr wx::mpC mvB x.tr x.T::pch::engC x.eb e'::bk b1 73 (roCells t a1 a2 a3 n1 n2 n3 c1 c2 c3 dr ab)::x.rc.ch::x.wc.ch::F)∧(y.1≤qn∧y.2.2.1≤y.1∧Row 3 1 y.2.1 y.2.2.1 y.2.2.2.1 encI64 y.2.2.2.2.2 y.2.2.2.2.1)∧qn-y.1<qn-i:=
  fun a' c' ch' z r hi hl=>⟨(i+1,a',wn+1,c',ch',wl++[z]),rfl,hi,⟨by simp only;omega,by simp only;omega,r⟩,by simp only;omega⟩
 refine go ?_
 simp only [decide_eq_true_eq,decide_eq_false_iff_not,Int.toNat_natCast,id]
 refine⟨fun c0=>⟨by omega,fun z hz v1=> ?_⟩,fun c0=> ?_⟩
 ·rw [w64_succ (by omega)]
  refine⟨fun _=>⟨by omega,z,rfl,fun a' c' ch' r'=>nxa a' c' ch' z r' drp c0⟩,fun _ v2=>⟨fun _=>⟨fun _=>⟨by omega,z,rfl,fun a' c' ch' r'=>nxa a' c' ch' z r' drp c0⟩,fun _=>nx drp c0⟩,fun _=>nx drp c0⟩⟩
 ·clear nx nxa
  have rp:=rp
  refine lp (fun y:Nat×(Option Addr×Nat×Nat×Chunk×List Int)×(Option Addr×Nat×Nat×Chunk×List Int)×Wx×Mp mvB=>[.slice y.2.1.1 y.2.1.2.1 y.2.1.2.2.1,.slice y.2.2.1.1 y.2.2.1.2.1 y.2.2.1.2.2.1,.int .i64 y.1])
   (fun y=>y.2.1.2.2.2.1::y.2.2.1.2.2.2.1::bk b 207 (wtCells x)::wxC x.wr y.2.2.2.1::mpC mvB x.tr y.2.2.2.2::engC x.eb e'::bk b1 73 (roCells t a1 a2 a3 n1 n2 n3 c1 c2 c3 dr ab)::x.rc.ch::x.wc.ch::F)
   (fun y=>y.1≤e'.on∧Row 3 1 y.2.1.1 y.2.1.2.1 y.2.1.2.2.1 encI64 y.2.1.2.2.2.2 y.2.1.2.2.2.1∧Row 3 1 y.2.2.1.1 y.2.2.1.2.1 y.2.2.1.2.2.1 encI64 y.2.2.1.2.2.2.2 y.2.2.1.2.2.2.1∧y.2.1.2.1≤1024∧y.2.2.1.2.1≤qn∧wLeft (e'.m.out.drop y.1) y.2.1.2.2.2.2=wLeft e'.m.out x.e.m.writes∧y.2.2.2.1.wq=wx.wq) (fun y=>e'.on-y.1)
   (0,(pa,pn,pc,pch,x.e.m.writes),(wa,wn,wc,wch,wl),wx,x.T) rfl drp ⟨Nat.zero_le _,rp,i3,by simp only;omega,by simp only;omega,by rw [List.drop_zero],rfl⟩ ?_
  rintro⟨j,⟨pa,pn,pc,pch,pl⟩,⟨wa,wn,wc,wch,wl⟩,wy,T⟩ ⟨j1,j2,j3,j4,j5,j6,j7⟩
  dsimp only at *
  have hpl:=j2.len
  have hwl:=j3.len
  refine go ?_
  simp only [decide_eq_true_eq,decide_eq_false_iff_not,Int.toNat_natCast,id,beq_iff_eq,beq_eq_false_iff_ne]
  refine⟨fun k1=>⟨by omega,fun z hz b3=> ?_⟩,fun k1=> ?_⟩
  ·rw [w64_succ (by omega)]
   have hjl:=lt_of_get hz
   have ed:e'.m.out.drop j=z::e'.m.out.drop (j+1):=by
    rw [List.drop_eq_getElem_cons hjl]
    rw [List.getElem?_eq_getElem hjl]at hz
    rw [Option.some.inj hz]
   rw [ed]at j6
   have k0:z.kind≠6→wLeft (e'.m.out.drop (j+1)) pl=wLeft e'.m.out x.e.m.writes:=fun hk=>by
    rw [←j6];unfold wLeft;rw [List.foldl_cons,if_neg hk]
   refine⟨fun k4=>⟨by omega,fun _ wz hwz=> ?_⟩,fun k4=>⟨fun k5 T' hT'=> ?_,fun k5=>⟨fun k6=> ?_,fun k6=> ?_⟩⟩⟩
   ·refine fn_imp (cs':=wch::bk b3 101 (evCells z)::pch::bk b 207 (wtCells x)::wxC x.wr wz::mpC mvB x.tr T::engC x.eb e'::bk b1 73 (roCells t a1 a2 a3 n1 n2 n3 c1 c2 c3 dr ab)::x.rc.ch::x.wc.ch::F) drp ?_
    refine c182t j3 inferInstance (by omega) fun n' c' ch' r'=> ?_
    have hf:=r'.len
    have hfl:(wl.filter fun i=>i≠z.id).length≤wl.length:=List.length_filter_le _ _
    exact go ⟨(j+1,(pa,pn,pc,pch,pl),(wa,n',c',ch',_),wz,T),rfl,drp,⟨by simp only;omega,j2,r',j4,by simp only;omega,k0 (by omega),by simp only;rw [hwz,j7]⟩,by simp only;omega⟩
   ·refine fn_imp (cs':=wch::bk b3 101 (evCells z)::pch::bk b 207 (wtCells x)::wxC x.wr wy::mpC mvB x.tr T'::engC x.eb e'::bk b1 73 (roCells t a1 a2 a3 n1 n2 n3 c1 c2 c3 dr ab)::x.rc.ch::x.wc.ch::F) drp ?_
    refine c182t j3 inferInstance (by omega) fun n' c' ch' r'=> ?_
    have hf:=r'.len
    have hfl:(wl.filter fun i=>i≠z.id).length≤wl.length:=List.length_filter_le _ _
    exact go ⟨(j+1,(pa,pn,pc,pch,pl),(wa,n',c',ch',_),wy,T'),rfl,drp,⟨by simp only;omega,j2,r',j4,by simp only;omega,k0 (by omega),by simp only;rw [j7]⟩,by simp only;omega⟩
   ·refine fn_imp (cs':=pch::bk b3 101 (evCells z)::wch::bk b 207 (wtCells x)::wxC x.wr wy::mpC mvB x.tr T::engC x.eb e'::bk b1 73 (roCells t a1 a2 a3 n1 n2 n3 c1 c2 c3 dr ab)::x.rc.ch::x.wc.ch::F) drp ?_
    refine c182t j2 inferInstance (by omega) fun n' c' ch' r'=> ?_
    have hf:=r'.len
    have hfl:(pl.filter fun i=>i≠z.id).length≤pl.length:=List.length_filter_le _ _
    exact go ⟨(j+1,(pa,n',c',ch',_),(wa,wn,wc,wch,wl),wy,T),rfl,drp,⟨by simp only;omega,r',j3,by simp only;omega,j5,by rw [←j6];unfold wLeft;rw [List.foldl_cons,if_pos k6],by simp only;rw [j7]⟩,by simp only;omega⟩
   ·exact⟨(j+1,(pa,pn,pc,pch,pl),(wa,wn,wc,wch,wl),wy,T),rfl,drp,⟨by simp only;omega,j2,j3,j4,j5,k0 k6,by simp only;rw [j7]⟩,by simp only;omega⟩
  ·have ej:j=e'.on:=by omega
   subst ej
   have eon:e'.on=e'.m.out.length:=e'.orow.len
   rw [eon,List.drop_length]at j6
   have j6:pl=wLeft e'.m.out x.e.m.writes:=j6
   have key:∀(x':Wt) (ids:List Int),ids=(x.f []).ids ⟨t,l1,l2,l3,dr,ab⟩→x'.wc.l=(countV x.wc.l x.wm ids).1→x'.wm=(countV x.wc.l x.wm ids).2→x'.e=e'→x'.wx=wy→∀{c:St},Imp c (wtC b x'::F)→Up K (.slice e'.oa e'.on e'.oc) c:=by
    intro x' ids hids hw1 hw2 hxe hxw c hi
    have:=h x' (fun out=>by
     show(⟨x'.e.m,x'.wc.l,x'.wm,out++x'.e.m.out⟩:FairM)=⟨x.e.m.round _,(countV x.wc.l x.wm ((x.f out).ids _)).1,(countV x.wc.l x.wm ((x.f out).ids _)).2,out++(x.e.m.round _).out⟩
     rw [hxe,he',hw1,hw2,hids];rfl) (by rw [hxw,j7];exact hq) (by rw [hxe,he'])
    rw [hxe]at this
    exact⟨_,hi,this⟩
   refine⟨fun k2=> ?_,fun k2=> ?_⟩
   ·refine c105e (x:=x) (e':=e') (wy:=wy) (T:=T) (G:=F) (wl:=[]) (pl:=[]) ⟨rds_nil⟩ ⟨rds_nil⟩ (by omega) (by omega) drp fun x' q1 q2 q3 q4=> ?_
    exact key x' [] (by unfold FairM.ids;rw [if_pos k2]) q1 q2 q3 q4 (Imp.refl _)
   ·refine c105e (x:=x) (e':=e') (wy:=wy) (T:=T) (G:=pch::wch::F) inferInstance inferInstance (by omega) (by omega) drp fun x' q1 q2 q3 q4=> ?_
    refine key x' pl (by unfold FairM.ids;rw [if_neg (by simp [k2]),j6,hmo];rfl) q1 q2 q3 q4 drp)))
end
section
variable {cs:St} {K:Value→SP}
instance c184 {x y:Int}:Go1 (fn 184 [.int .i64 x,.int .i64 y] K cs) (K (.int .i64 (gapV x y)) cs):=⟨fun h=>f184 (by unfold s184;exact h)⟩
instance c106 {a:Option Addr} {n c:Nat} {L:List EvM} [r:Rw 101 12 cs a n c encEv L]:Go1 (fn 106 [.slice a n c] K cs) (n≤4000000000000∧K (.int .i64 (ticksV L)) cs):=⟨fun⟨hn,h⟩=>up0 (f106 (by
 unfold s106
 have hl:=r.h.len
 refine lp (fun y:Nat×Int×Int=>[.int .i64 y.2.1,.int .i64 y.2.2,.int .i64 y.1]) (fun _=>cs) (fun y=>y.1≤n∧(L.drop y.1).foldl tick1 y.2=L.foldl tick1 (1,0)) (fun y=>n-y.1) (0,1,0) rfl (Imp.refl _) ⟨Nat.zero_le _,by rw [List.drop_zero]⟩ ?_
 rintro⟨i,u,v⟩ ⟨i1,i2⟩
 dsimp only at *
 refine go ?_
 simp only [decide_eq_true_eq,decide_eq_false_iff_not,Int.toNat_natCast,beq_iff_eq,beq_eq_false_iff_ne]
 refine⟨fun c0=>⟨by omega,fun z hz b1=> ?_⟩,fun c0=> ?_⟩
 ·have hil:=lt_of_get hz
  have ed:L.drop i=z::L.drop (i+1):=by
   rw [List.drop_eq_getElem_cons hil]
   rw [List.getElem?_eq_getElem hil]at hz
   rw [Option.some.inj hz]
  rw [ed,List.foldl_cons]at i2
  rw [w64_succ (by omega)]
  refine⟨fun c1=>⟨(i+1,(if gapV v z.tick>u then gapV v z.tick else u),z.tick),rfl,drp,⟨by simp only;omega,?_⟩,by simp only;omega⟩,fun c1=>⟨(i+1,u,v),rfl,drp,⟨by simp only;omega,?_⟩,by simp only;omega⟩⟩
  ·rw [←i2];simp only [tick1,if_pos c1]
  ·rw [←i2];simp only [tick1,if_neg c1]
 ·have e:i=n:=by omega
  subst e
  rw [hl,List.drop_length,List.foldl_nil]at i2
  have h:K (.int .i64 u) cs:=by unfold ticksV at h;rw [←i2]at h;exact h
  exact fin h))⟩
end
structure RoV where
 t:Int
 a1:Option Addr
 n1:Nat
 c1:Nat
 a2:Option Addr
 n2:Nat
 c2:Nat
 a3:Option Addr
 n3:Nat
 c3:Nat
 dr:Int
 ab:Bool
 l1:List Int
 l2:List OfferM
 l3:List ReportM
def RoV.m (v:RoV):RoundM:=⟨v.t,v.l1,v.l2,v.l3,v.dr,v.ab⟩
@[reducible] def encRo:Enc RoV 6:=⟨fun v=>roCells v.t v.a1 v.a2 v.a3 v.n1 v.n2 v.n3 v.c1 v.c2 v.c3 v.dr v.ab,by omega,fun _=>rfl⟩
structure RoV.Ok (A:Chunk) (v:RoV):Prop where
 v1:Vie 3 1 v.a1 v.n1 v.c1 encI64 v.l1 A
 v2:Vie 85 3 v.a2 v.n2 v.c2 encOff v.l2 A
 v3:Vie 87 4 v.a3 v.n3 v.c3 encRep v.l3 A
 b1:v.t≤never∧v.dr≤never
 b2:v.n1≤1000000000∧v.n2≤1000000000∧v.n3≤1000000000
def roSum (l:List RoV):Nat:=(l.map fun v=>offSum v.l2).sum
theorem roSum_take {l:List RoV} {i:Nat} {y:RoV} (h:l[i]? =some y):roSum (l.take (i+1))=roSum (l.take i)+offSum y.l2:=by
 obtain⟨hi,e⟩:=List.getElem?_eq_some_iff.1 h
 rw [List.take_succ_eq_append_getElem hi,e]
 simp [roSum]
theorem roSum_le (l:List RoV) (i:Nat):roSum (l.take i)≤roSum l:=by
 have:roSum l=roSum (l.take i)+roSum (l.drop i):=by
  conv=>lhs;rw [←List.take_append_drop i l]
  rw [roSum,List.map_append,List.sum_append];rfl
 omega
theorem fair_mono:∀(l:List RoundM) (f:FairM),f.out.length≤(l.foldl FairM.round f).out.length
 | [],_=>Nat.le_refl _
 | r::l,f=>Nat.le_trans (by show f.out.length≤(f.out++(f.e.round r).out).length;simp) (fair_mono l (f.round r))
theorem qle_new (su:Setup) (ps:List PrM) (N:Nat):(Eng.new su ps).qle N:=by
 intro k y hk
 unfold Eng.seat Eng.new at hk
 simp only [List.getD_eq_getElem?_getD,List.getElem?_replicate]at hk
 split at hk <;>simp at hk
instance wtEv {x:Wt} {b:Nat} {cs:St}:Rw 101 12 (wtC b x::cs) x.e.oa x.e.on x.e.oc encEv x.e.m.out:=⟨by
 have h:RdS [x.e.och] encEv x.e.oa x.e.on x.e.oc x.e.m.out:=Row.rd x.e.orow (cs:=[x.e.och]) (put:=fun c=>[c]) inferInstance
 exact h.sub (fun y hy=>by simp at hy;simp [wtC,wtParts,engC,hy])⟩
section
variable {cs:St} {K:Value→SP} {A:Chunk} {a a2:Option Addr} {n c n2 c2:Nat} {R:List RoV} {ps:List PrM}
theorem c34t {su:Setup} (r:PrsR cs a n c ps) (v:Vie 73 6 a2 n2 c2 encRo R A) (hR:∀y∈R,y.Ok A) (q:In cs A) (hf:∀p∈ps,p.Fit) (hn:n2≤1000000000) (hs:roSum R≤1000000000000)
  (h1:good su=false→K (.tuple ⟨[.agg ⟨[.int .i64 0,.int .i64 0,.int .i64 0]⟩,.slice none 0 0,.int .i64 1]⟩) cs)
  (h2:good su=true→64<n→K (.tuple ⟨[.agg ⟨[.int .i64 0,.int .i64 0,.int .i64 0]⟩,.slice none 0 0,.int .i64 4]⟩) cs)
  (h3:good su=true→n≤64→(FairM.run su ps (R.map RoV.m)).out.length<999999999990∧∀(oa:Option Addr) (on oc:Nat) (och:Chunk) (z:Int),Row 101 12 oa on oc encEv (FairM.run su ps (R.map RoV.m)).out och→
   K (.tuple ⟨[.agg ⟨[.int .i64 (ticksV (FairM.run su ps (R.map RoV.m)).out),.int .i64 z,.int .i64 (w64 ((FairM.run su ps (R.map RoV.m)).wm+1))]⟩,.slice oa on oc,.int .i64 0]⟩) (och::cs)):
  fn 34 [.agg ⟨suC su⟩,.slice a n c,.slice a2 n2 c2] K cs:=up0 (f34 (by
 have hR2:=v.h.len
 unfold s34
 refine go fun b1 b2=>⟨hf,fun g=>⟨fun _=>fin (h1 g),fun c0=>absurd c0 (by decide)⟩,fun g gn=>⟨fun _=>fin (h2 g gn),fun c0=>absurd c0 (by decide)⟩,fun g gn bq xe hxe=>⟨fun c0=>absurd c0 (by decide),fun _ wr W hW tr T hT bw=> ?_⟩⟩
 obtain⟨h4,h5⟩:=h3 g gn
 let x0:Wt:=⟨bq,xe,wr,⟨W,[],0,(fun k v hk=>by rw [hW]at hk;cases hk),(fun p hp=>nomatch hp)⟩,tr,T,Cn.zero,0,Cn.zero,0⟩
 generalize hB:(bk b2 29 [.int .i64 0,.int .i64 0,.int .i64 0]::bk b1 23 (suC su)::cs:St)=G at *
 have qG:In G A:=by rw [←hB];infer_instance
 refine lp (fun y:Nat×(Option Addr×Nat×Nat×Chunk)×Wt×List EvM=>[.slice y.2.1.1 y.2.1.2.1 y.2.1.2.2.1,.int .i64 y.1]) (fun y=>y.2.1.2.2.2::wtC bw y.2.2.1::G)
  (fun y=>y.1≤n2∧Row 101 12 y.2.1.1 y.2.1.2.1 y.2.1.2.2.1 encEv y.2.2.2 y.2.1.2.2.2∧((R.map RoV.m).drop y.1).foldl FairM.round (y.2.2.1.f y.2.2.2)=FairM.run su ps (R.map RoV.m)∧y.2.2.1.wx.wq≤roSum (R.take y.1)∧y.2.2.1.e.m.qle (roSum (R.take y.1))) (fun y=>n2-y.1)
  (0,(none,0,0,[]),x0,[]) rfl (Imp.trans (b:=bk bw 207 (wtCells x0)::engC bq xe::(mpC mvP wr W++[])::mpC mvB tr T::[]::[]::G) (by dsimp only [wtCells,x0,Cn.zero];exact drp) (Imp.trans (by refine Imp.trans ?_ (wtShut (b:=bw) (x:=x0) (F:=G));exact Imp.of_sub (l:=[]) (by simp [wtParts,x0,wxC,wsC,Cn.zero])) drp)) ⟨Nat.zero_le _,⟨Sl.nil⟩,?_,Nat.zero_le _,?_⟩ ?_
 ·simp only [List.drop_zero]
  unfold FairM.run FairM.new
  rw [←hxe];rfl
 ·show xe.m.qle _
  rw [hxe]
  exact qle_new _ _ _
 rintro⟨i,⟨oa,on,oc,och⟩,x,out⟩ ⟨i1,i2,i3,i4,i5⟩
 dsimp only at *
 have hlen:=i2.len
 refine go ?_
 simp only [decide_eq_true_eq,decide_eq_false_iff_not,Int.toNat_natCast]
 refine⟨fun c0=>⟨by omega,fun y hy b3=> ?_⟩,fun c0=> ?_⟩
 ·have hil:=lt_of_get hy
  have hyo:=hR y (List.mem_of_getElem? hy)
  have hst:=roSum_take hy
  have hsl:=roSum_le R (i+1)
  have ed:(R.map RoV.m).drop i=y.m::(R.map RoV.m).drop (i+1):=by
   rw [List.drop_eq_getElem_cons (by rw [List.length_map];exact hil)]
   rw [List.getElem?_eq_getElem hil]at hy
   rw [List.getElem_map,Option.some.inj hy]
  rw [ed,List.foldl_cons]at i3
  have hm:=fair_mono ((R.map RoV.m).drop (i+1)) ((x.f out).round y.m)
  rw [i3]at hm
  have hm2:((x.f out).round y.m).out.length=out.length+(x.e.m.round y.m).out.length:=List.length_append
  refine fn_imp (cs':=wtC bw x::och::bk b3 73 (encRo.f y)::G) drp ?_
  refine c105t (A:=A) (l1:=y.l1) (l2:=y.l2) (l3:=y.l3) x hyo.v1 hyo.v2 hyo.v3 inferInstance ⟨hyo.b1,hyo.b2,by show(x.e.m.round y.m).out.length<_;omega,⟨_,i5,by omega⟩,by omega⟩ fun x' hf' hw' he'=> ?_
  have he2:x'.e.m=x.e.m.round y.m:=he'
  have hxl:=x'.e.orow.len
  rw [he2]at hxl
  refine go ⟨⟨by omega,by omega⟩,fun a' c' ch' r'=>⟨(i+1,(a',_,c',ch'),x',out++x'.e.m.out),by rw [w64_succ (by omega)],drp,⟨by simp only;omega,r',?_,?_,?_⟩,by simp only;omega⟩⟩
  ·simp only
   rw [hf' out];exact i3
  ·simp only;omega
  ·simp only
   rw [hst,he2]
   exact qle_round i5 _
 ·have e:i=n2:=by omega
  subst e
  rw [hR2,List.drop_eq_nil_of_le (by simp),List.foldl_nil]at i3
  have e1:out=(FairM.run su ps (R.map RoV.m)).out:=by rw [←i3];rfl
  have e2:x.wm=(FairM.run su ps (R.map RoV.m)).wm:=by rw [←i3];rfl
  have i2:=i2
  have rdw:RdB (wtC bw x::G) bw 207 (wtCells x):=⟨by simp [Rd,wtC,wtParts,bk]⟩
  rw [←e1,←e2]at h5
  have hl2:out.length<999999999990:=by rw [e1];exact h4
  subst hB
  refine go ⟨by omega,?_⟩
  exact fin (h5 _ _ _ _ _ i2)))
end
end Go.Proofs.YtbjlfobjngogkaaGreatDoor
namespace Go.Proofs.YtbjlfobjngogkaaGreatDoor
open Go
variable {K:Value→SP} {cs:St}
@[reducible] def s3 (x0:List Value) (K:Value→SP):SP:=
 box 27 (.agg (.mk x0)) fun a1=>ldA 27 (a1) fun a3=>fn 9 [.agg (.mk a3)]<|fun v4=>unT v4 fun t5=>ex (0<t5.length)<|unL (t5.getD 0 undef) fun a6 n7 c8=>ex (1<t5.length)<|unA (t5.getD 1 undef) fun a9=>ex (2<t5.length)<|unL (t5.getD 2 undef) fun a10 n11 c12=>ex (3<t5.length)<|unB (t5.getD 3 undef) fun b13=>ex (4<t5.length)<|unB (t5.getD 4 undef) fun b14=>new 29 fun a16=>st 29 (a16) (.agg (.mk a9))<|br (!b13) (br (b14) (fn 10 []<|fun v18=>unB v18 fun b19=>K (.bool b19))<|K (.bool false))<|fn 11 [.slice a10 n11 c12]<|fun v20=>unL v20 fun a21 n22 c23=>Lp (fun self24 l25=>unI .i64 (l25.headD undef) fun i26=>br (decide (i26<(n22:Int))) (ix 34 (.slice a21 n22 c23) (i26) fun a28=>ldI .i64 3 (a28) fun n30=>fn 12 [.slice a10 n11 c12,.int .i64 n30]<|fun v31=>unT v31 fun t32=>ex (0<t32.length)<|unA (t32.getD 0 undef) fun a33=>ex (1<t32.length)<|unB (t32.getD 1 undef) fun _=>new 39 fun a36=>st 39 (a36) (.agg (.mk a33))<|ldI .i64 3 (a36.add 1) fun n39=>br (decide (n39<0)) (K (.bool false))<|ldI .i64 3 (a36.add 1) fun n41=>br (decide (n41≥(n7:Int))) (K (.bool false))<|ldL 37 (a36.add 4) fun a43 n44 c45=>ldA 23 (a1.add 0) fun a47=>ldI .i64 3 (a36.add 1) fun n49=>ix 24 (.slice a6 n7 c8) (n49) fun a51=>ldA 45 (a51) fun a53=>ldI .i64 3 (a36.add 1) fun n55=>ix 24 (.slice a6 n7 c8) (n55) fun a57=>ldI .i64 3 (a57.add 2) fun n59=>ldS 9 (a36.add 5) fun s61=>fn 13 [.agg (.mk a47),.agg (.mk a53)]<|fun v62=>unI .i64 v62 fun n63=>stb (Instr.loadAt 9 (.pointer (some (a36.add 5)))) (.string s61)<|stb (Instr.loadAt 3 (.pointer (some (a57.add 2)))) (.int .i64 n59)<|stb (Instr.indexAt 24 (.slice a6 n7 c8) (.int .i64 n55)) (.pointer (some a57))<|stb (Instr.loadAt 3 (.pointer (some (a36.add 1)))) (.int .i64 n55)<|stb (Instr.loadAt 37 (.pointer (some (a36.add 4)))) (.slice a43 n44 c45)<|br (decide ((n44:Int)>w64 (w64 (w64 (2*n63)*w64 (n59+1))+(s61.size:Int)))) (K (.bool false))<|self24 [.int .i64 (w64 (i26+1))])<|fn 10 []<|fun v64=>unB v64 fun b65=>K (.bool b65)) [.int .i64 0]
theorem f3 {x0:List Value} (h:s3 x0 K cs):fn 3 [.agg (.mk x0)] K cs:=fO (an:=⟨[(6,[(9,.int .i64)])],[]⟩) Tryz.func3 h
@[reducible] def s9 (x0:List Value) (K:Value→SP):SP:=
 box 27 (.agg (.mk x0)) fun a1=>new 29 fun a3=>ldA 27 (a1) fun a5=>fn 27 [.agg (.mk a5)]<|fun v6=>unL v6 fun a7 n8 c9=>ldA 23 (a1.add 0) fun a11=>ldL 25 (a1.add 8) fun a13 n14 c15=>fn 34 [.agg (.mk a11),.slice a7 n8 c9,.slice a13 n14 c15]<|fun v16=>unT v16 fun t17=>ex (0<t17.length)<|unA (t17.getD 0 undef) fun a18=>ex (1<t17.length)<|unL (t17.getD 1 undef) fun a19 n20 c21=>ex (2<t17.length)<|unI .i64 (t17.getD 2 undef) fun i22=>st 29 (a3) (.agg (.mk a18))<|Jn (fun l24=>unI .i64 (l24.headD undef) fun i26=>ldA 29 (a3) fun a28=>br (i22 == i26) (br (i22 == 0) (st 29 (a3) (.agg (.mk a28))<|qy (loadVar 29 a3)<|fun v30=>unA v30 fun a31=>K (.tuple (Array.mk [.slice a7 n8 c9,.agg (.mk a31),.slice a19 n20 c21,.bool (i22 == 0),.bool true])))<|st 29 (a3) (.agg (.mk a28))<|qy (loadVar 29 a3)<|fun v33=>unA v33 fun a34=>K (.tuple (Array.mk [.slice a7 n8 c9,.agg (.mk a34),.slice a19 n20 c21,.bool (i22 == 0),.bool ((n20:Int) == 0)])))<|st 29 (a3) (.agg (.mk a28))<|qy (loadVar 29 a3)<|fun v36=>unA v36 fun a37=>K (.tuple (Array.mk [.slice a7 n8 c9,.agg (.mk a37),.slice a19 n20 c21,.bool (i22 == 0),.bool false])))<|fun j25=>ldA 23 (a1.add 0) fun a39=>fn 35 [.agg (.mk a39)]<|fun v40=>unB v40 fun b41=>br (!b41) (j25 [.int .i64 1])<|br (decide ((n8:Int)>64)) (j25 [.int .i64 4])<|j25 [.int .i64 0]
theorem f9 {x0:List Value} (h:s9 x0 K cs):fn 9 [.agg (.mk x0)] K cs:=fO (an:=⟨[],[(8,[(8,.int .i64)])]⟩) Tryz.func9 h
@[reducible] def s10 (K:Value→SP):SP:=
 fn 37 []<|fun v0=>unA v0 fun a1=>fn 38 []<|fun v2=>unA v2 fun a3=>sm (Instr.buildSlice 24 1 (Array.mk [(0,.agg (.mk a3))]))<|fun v4=>unL v4 fun a5 n6 c7=>sm (Instr.buildSlice 34 1 (Array.mk [(0,.int .i64 0)]))<|fun v8=>unL v8 fun a9 n10 c11=>sm (Instr.buildSlice 70 1 (Array.mk [(0,.agg (.mk [.int .i64 0,.string (bs [111,107]),.bool false]))]))<|fun v12=>unL v12 fun a13 n14 c15=>sm (Instr.buildSlice 71 1 (Array.mk [(0,.agg (.mk [.int .i64 0,.bool true,.bool true,.int .i64 2]))]))<|fun v16=>unL v16 fun a17 n18 c19=>sm (Instr.buildSlice 25 4 (Array.mk [(0,.agg (.mk [.int .i64 1,.slice a9 n10 c11,.slice none 0 0,.slice none 0 0,.int .i64 0,.bool false])),(1,.agg (.mk [.int .i64 1,.slice none 0 0,.slice a13 n14 c15,.slice a17 n18 c19,.int .i64 0,.bool false])),(2,.agg (.mk [.int .i64 1,.slice none 0 0,.slice none 0 0,.slice none 0 0,.int .i64 0,.bool false])),(3,.agg (.mk [.int .i64 1,.slice none 0 0,.slice none 0 0,.slice none 0 0,.int .i64 0,.bool false]))]))<|fun v20=>unL v20 fun a21 n22 c23=>fn 36 [.agg (.mk a1),.slice a5 n6 c7,.slice a21 n22 c23]<|fun v24=>unT v24 fun t25=>ex (0<t25.length)<|unL (t25.getD 0 undef) fun a26 n27 c28=>ex (1<t25.length)<|unI .i64 (t25.getD 1 undef) fun i29=>fn 39 [.slice a26 n27 c28]<|fun v30=>unT v30 fun t31=>ex (0<t31.length)<|unM (t31.getD 0 undef) fun m32=>ex (1<t31.length)<|unB (t31.getD 1 undef) fun b33=>br (i29 == 0) (qy (Builtin.len_ (Array.mk [88]) 3 (Array.mk [.map m32]))<|fun v34=>unI .i64 v34 fun n35=>br (n35 == 1) (qy (Instr.lookup 88 (.map m32) (.int .i64 0) false)<|fun v36=>unI .i64 v36 fun n37=>br (n37 == 1) (K (.bool !b33))<|K (.bool false))<|K (.bool false))<|K (.bool false)
theorem f10 (h:s10 K cs):fn 10 [] K cs:=fO (an:=⟨[],[]⟩) Tryz.func10 h
@[reducible] def s27 (x0:List Value) (K:Value→SP):SP:=
 box 27 (.agg (.mk x0)) fun a1=>ldS 9 (a1.add 6) fun s3=>fn 83 [.string s3]<|fun v4=>unT v4 fun t5=>ex (0<t5.length)<|unL (t5.getD 0 undef) fun a6 n7 c8=>ex (1<t5.length)<|unI .i64 (t5.getD 1 undef) fun i9=>Jn (fun l10=>unL (l10.headD undef) fun a12 n13 c14=>ldL 24 (a1.add 7) fun a16 n17 c18=>an (sm (Instr.buildSlice 24 0 (Array.mk []))<|fun v19=>unL v19 fun a20 n21 c22=>stb (Instr.loadAt 24 (.pointer (some (a1.add 7)))) (.slice a16 n17 c18)<|fn 84 [.slice a12 n13 c14]<|fun v23=>unL v23 fun a24 n25 c26=>stb (Instr.loadAt 24 (.pointer (some (a1.add 7)))) (.slice a16 n17 c18)<|sm (Builtin.append_ (Array.mk [24,24]) 24 (Array.mk [.slice a20 n21 c22,.slice a24 n25 c26]))<|fun v27=>unL v27 fun a28 n29 c30=>stb (Instr.loadAt 24 (.pointer (some (a1.add 7)))) (.slice a16 n17 c18)<|sm (Builtin.append_ (Array.mk [24,24]) 24 (Array.mk [.slice a28 n29 c30,.slice a16 n17 c18]))<|fun v31=>unL v31 fun a32 n33 c34=>K (.slice a32 n33 c34))<|fn 84 [.slice a12 n13 c14]<|fun v35=>unL v35 fun a36 n37 c38=>stb (Instr.loadAt 24 (.pointer (some (a1.add 7)))) (.slice a16 n17 c18)<|sm (Instr.buildSlice 24 0 (Array.mk []))<|fun v39=>unL v39 fun a40 n41 c42=>stb (Instr.loadAt 24 (.pointer (some (a1.add 7)))) (.slice a16 n17 c18)<|sm (Builtin.append_ (Array.mk [24,24]) 24 (Array.mk [.slice a40 n41 c42,.slice a36 n37 c38]))<|fun v43=>unL v43 fun a44 n45 c46=>stb (Instr.loadAt 24 (.pointer (some (a1.add 7)))) (.slice a16 n17 c18)<|sm (Builtin.append_ (Array.mk [24,24]) 24 (Array.mk [.slice a44 n45 c46,.slice a16 n17 c18]))<|fun v47=>unL v47 fun a48 n49 c50=>K (.slice a48 n49 c50))<|fun j11=>br (i9 != 0) (j11 [.slice none 0 0])<|j11 [.slice a6 n7 c8]
theorem f27 {x0:List Value} (h:s27 x0 K cs):fn 27 [.agg (.mk x0)] K cs:=fO (an:=⟨[],[(4,[(3,.sl)])]⟩) Tryz.func27 h
@[reducible] def s37 (K:Value→SP):SP:=
 new 23 fun a1=>st 23 (a1) (.agg (.mk [.int .i64 2,.int .i64 4,.int .i64 16,.int .i64 2,.int .i64 6,.int .i64 1]))<|qy (loadVar 23 a1)<|fun v3=>unA v3 fun a4=>K (.agg (.mk a4))
theorem f37 (h:s37 K cs):fn 37 [] K cs:=fO (an:=⟨[],[]⟩) Tryz.func37 h
@[reducible] def s38 (K:Value→SP):SP:=
 new 45 fun a1=>sm (Instr.buildSlice 95 1 (Array.mk [(0,.agg (.mk [.string (bs [111,107]),.int .i64 2]))]))<|fun v2=>unL v2 fun a3 n4 c5=>sm (Instr.buildSlice 43 2 (Array.mk [(0,.agg (.mk [.int .i64 1,.string (bs [104,105]),.int .i64 0,.int .i64 0,.slice none 0 0,.int .i64 0,.int .i64 0])),(1,.agg (.mk [.int .i64 2,.string (bs []),.int .i64 9,.int .i64 0,.slice a3 n4 c5,.int .i64 (-1),.int .i64 (-1)]))]))<|fun v6=>unL v6 fun a7 n8 c9=>st 45 (a1) (.agg (.mk [.string (bs [97,115,107]),.int .i64 40,.int .i64 2,.slice a7 n8 c9]))<|qy (loadVar 45 a1)<|fun v11=>unA v11 fun a12=>K (.agg (.mk a12))
theorem f38 (h:s38 K cs):fn 38 [] K cs:=fO (an:=⟨[],[]⟩) Tryz.func38 h
end Go.Proofs.YtbjlfobjngogkaaGreatDoor
namespace Go.Proofs.YtbjlfobjngogkaaGreatDoor
open Go
set_option synthInstance.maxSize 100000
set_option synthInstance.maxHeartbeats 1000000
set_option maxRecDepth 100000
instance:EOne encPr:=⟨fun x u hu=>by simp at hu;rcases hu with rfl | rfl | rfl | rfl <;>rfl⟩
def ScE.out (y:ScE):PrV:=if y.err=0 then(y.sc.p,y.sc.a,y.sc.n,y.sc.c)else(⟨bs [],0,0,[]⟩,none,0,0)
section
variable {cs:St} {K:Value→SP}
theorem c144t {a:Option Addr} {n c:Nat} {l:List ScE} [r:Rw 276 8 cs a n c encScr l] (hn:n≤1000) (h:∀(a':Option Addr) (c':Nat) (ch':Chunk),Row 45 4 a' l.length c' encPr (l.map ScE.out) ch'→K (.slice a' l.length c') (ch'::cs)):fn 144 [.slice a n c] K cs:=up0 (f144 (by
 have hl:=r.h.len
 unfold s144
 refine lp (α:=Nat×Option Addr×Nat×Chunk) (fun x=>[.slice x.2.1 x.1 x.2.2.1,.int .i64 x.1]) (fun x=>x.2.2.2::cs)
  (fun x=>x.1≤n∧Row 45 4 x.2.1 x.1 x.2.2.1 encPr ((l.take x.1).map ScE.out) x.2.2.2) (fun x=>n-x.1) (0,none,0,[]) rfl drp ⟨Nat.zero_le _,⟨Sl.nil⟩⟩ ?_
 rintro⟨i,oa,oc,och⟩ ⟨h1,h2⟩
 dsimp only at h1 h2 ⊢
 have h2:=h2
 refine go ⟨fun c0=>⟨⟨by omega,by simpa using c0⟩,fun y hy b1=> ?_⟩,fun c0=> ?_⟩
 ·have hlt:i<n:=by simpa using c0
  have hy2:l[i]? =some y:=by simpa using hy
  refine⟨fun _ c=>∃z:ScE,z.out=y.out∧Imp c (bk b1 276 [.string y.out.1.name,.int .i64 y.out.1.dl,.int .i64 y.out.1.jumps,.slice y.out.2.1 y.out.2.2.1 y.out.2.2.2,.int .i64 y.line,.int .i64 y.s1,.int .i64 y.s2,.int .i64 y.err]::och::cs),fun v c hc=> ?_,?_⟩
  ·obtain⟨z,hz,hi⟩:=hc
   refine⟨_,hi,?_⟩
   refine go ⟨⟨by decide,by omega,by omega⟩,y.out,rfl,fun a' c' ch' r2=> ?_⟩
   refine⟨(i+1,a',c',ch'),by rw [w64_succ (by omega)],drp,⟨hlt,?_⟩,by show _-(i+1)<_;omega⟩
   dsimp only
   have e:(l.take (i+1)).map ScE.out=(l.take i).map ScE.out++[y.out]:=by
    rw [List.take_add_one,hy2];simp
   rw [e]
   exact r2
  ·by_cases he:y.err=0
   ·have e1:y.out=(y.sc.p,y.sc.a,y.sc.n,y.sc.c):=if_pos he
    rw [e1]
    refine go ⟨fun c1=>absurd he (by simpa using c1),fun _=>⟨y,e1,Imp.refl _⟩⟩
   ·have e1:y.out=(⟨bs [],0,0,[]⟩,none,0,0):=if_neg he
    rw [e1]
    refine go ⟨fun _=>⟨y,e1,Imp.refl _⟩,fun c1=>absurd (by simpa using c1) he⟩
 ·have hle:¬i<n:=by simpa using c0
  have e:l.take i=l:=List.take_of_length_le (by omega)
  rw [e]at h2
  have e2:i=l.length:=by omega
  rw [e2]at h2 ⊢
  exact fin (h _ _ _ h2)))
theorem c84t {a:Option Addr} {n c:Nat} {l:List ScE} [r:Rw 276 8 cs a n c encScr l] (hn:n≤1000) (h:∀(a':Option Addr) (c':Nat) (ch':Chunk),Row 45 4 a' l.length c' encPr (l.map ScE.out) ch'→K (.slice a' l.length c') (ch'::cs)):fn 84 [.slice a n c] K cs:=f84 (by
 unfold s84
 exact c144t hn fun a' c' ch' r=>go (h a' c' ch' r))
@[reducible] def stageC (su:Setup) (src:ByteArray) (sa:Option Addr) (sn sc:Nat) (ra:Option Addr) (rn rc:Nat):List Value:=[.int .i64 su.live,.int .i64 su.ring,.int .i64 su.win,.int .i64 su.out,.int .i64 su.quantum,.int .i64 su.visits,.string src,.slice sa sn sc,.slice ra rn rc]
theorem c27t {su:Setup} {src:ByteArray} {sa ra:Option Addr} {sn sc rn rc:Nat} {ps0:List PrM} {cs0:St} (hm:∀x∈cs0.flatten,x∈cs.flatten) (g:Glob cs) (rs:PrsR cs0 sa sn sc ps0) (hf:∀p∈ps0,p.Fit) (hn:sn≤1000000000)
  (h:∀(a:Option Addr) (n c:Nat) (ch P:Chunk) (ps:List PrM),PrsR (ch::P::cs0) a n c ps→(∀p∈ps,p.Fit)→n=ps.length→K (.slice a n c) (ch::P::cs)):fn 27 [.agg ⟨stageC su src sa sn sc ra rn rc⟩] K cs:=up0 (f27 (by
 obtain⟨L0,k1,k2,k3⟩:=rs.h
 have rw0:Rw 45 4 cs sa sn sc encPr L0:=⟨k1.sub hm⟩
 have rw0:=rw0
 have hL0:=k1.len
 have key:∀(l:List ScE),(∀y∈l,y.sc.p.Fit)→∀(a':Option Addr) (c':Nat) (ch':Chunk) (c:St),Row 45 4 a' (l.length+sn) c' encPr (l.map ScE.out++L0) ch'→Imp c (ch'::scsC l::cs)→Up K (.slice a' (l.length+sn) c') c:=fun l hl a' c' ch' c r hi=>by
  refine⟨ch'::scsC l::cs,hi,h a' _ c' ch' (scsC l) ((l.map ScE.out++L0).map Prod.fst) ⟨l.map ScE.out++L0,Row.rd r (inferInstance:ChAt (ch'::scsC l::cs0) ch' _),rfl,?_⟩ ?_ (by simp [hL0])⟩
  ·intro x hx
   rcases List.mem_append.1 hx with hx | hx
   ·obtain⟨y,hy,rfl⟩:=List.mem_map.1 hx
    by_cases he:y.err=0
    ·have e1:y.out=(y.sc.p,y.sc.a,y.sc.n,y.sc.c):=if_pos he
     rw [e1]
     exact y.sc.r.sub fun z hz=>by
      simp only [List.flatten_cons,List.flatten_nil,List.append_nil,List.mem_append]at hz ⊢
      exact .inr (.inl (List.mem_flatMap.2 ⟨y,hy,hz⟩))
    ·have e1:y.out=(⟨bs [],0,0,[]⟩,none,0,0):=if_neg he
     rw [e1]
     exact zeroSc.r.sub fun z hz=>by simp [zeroSc]at hz
   ·exact(k3 x hx).sub fun z hz=>by simp only [List.flatten_cons,List.mem_append];exact .inr (.inr hz)
  ·intro p hp
   obtain⟨x,hx,rfl⟩:=List.mem_map.1 hp
   rcases List.mem_append.1 hx with hx | hx
   ·obtain⟨y,hy,rfl⟩:=List.mem_map.1 hx
    by_cases he:y.err=0
    ·have e1:y.out=(y.sc.p,y.sc.a,y.sc.n,y.sc.c):=if_pos he
     rw [e1];exact hl y hy
    ·have e1:y.out=(⟨bs [],0,0,[]⟩,none,0,0):=if_neg he
     rw [e1];exact zeroSc_fit
   ·exact hf _ (by rw [←k2];exact List.mem_map_of_mem hx)
 unfold s27
 refine go fun b1=> ?_
 refine c83t inferInstance fun a c ch l e hr hfl hl=> ?_
 have hr:=hr
 refine go ⟨fun v c=>∃(a':Option Addr) (c':Nat) (ch':Chunk) (l':List ScE),v=[.slice a' l'.length c']∧Row 276 8 a' l'.length c' encScr l' ch'∧(∀y∈l',y.sc.p.Fit)∧l'.length≤64∧Imp c (ch'::scsC l'::bk b1 27 (stageC su src sa sn sc ra rn rc)::cs),fun v c hc=> ?_,?_⟩
 ·obtain⟨a1,c1,ch1,l1,rfl,hr1,hf1,hl1,hi⟩:=hc
  refine⟨_,hi,?_⟩
  have hr1:=hr1
  refine go ?_
  have last:∀(b2:Nat) (a2:Option Addr) (c2:Nat) (ch2:Chunk) (cx:St),Row 45 4 a2 l1.length c2 encPr (l1.map ScE.out) ch2→Imp cx ([]::ch2::bk b1 27 (stageC su src sa sn sc ra rn rc)::scsC l1::cs)→
    sm (Builtin.append_ ⟨[24,24]⟩ 24 ⟨[.slice (some (ad b2 0)) 0 0,.slice a2 l1.length c2]⟩) (fun v27=>unL v27 fun a28 n29 c30=>stb (Instr.loadAt 24 (.pointer (some ((ad b1 0).add 7)))) (.slice sa sn sc) (sm (Builtin.append_ ⟨[24,24]⟩ 24 ⟨[.slice a28 n29 c30,.slice sa sn sc]⟩) fun v31=>unL v31 fun a32 n33 c34=>Up K (.slice a32 n33 c34))) cx:=fun b2 a2 c2 ch2 cx r2 hi=>by
   have r2:=r2
   have r0:Row 45 4 (some (ad b2 0)) 0 0 encPr [] []:=⟨Sl.nil⟩
   have r0:=r0
   refine sm_imp hi ?_
   refine go ⟨⟨by omega,by omega⟩,fun a3 c3 ch3 r3=> ?_⟩
   have r3:=r3
   refine go ⟨⟨by omega,by omega⟩,fun a4 c4 ch4 r4=> ?_⟩
   rw [List.nil_append,Nat.zero_add]at r4
   rw [Nat.zero_add]
   exact key l1 hf1 a4 c4 ch4 _ r4 drp
  refine⟨⟨by decide,fun b2=> ?_⟩,?_⟩
  ·refine c84t (by omega) fun a2 c2 ch2 r2=> ?_
   refine go ?_
   exact last b2 a2 c2 ch2 _ r2 drp
  ·refine c84t (by omega) fun a2 c2 ch2 r2=> ?_
   refine go ⟨by decide,fun b2=> ?_⟩
   exact last b2 a2 c2 ch2 _ r2 drp
 ·exact go ⟨fun _=>⟨none,0,[],[],rfl,⟨Sl.nil⟩,(fun y hy=>nomatch hy),Nat.zero_le _,(by have:scsC []=[]:=rfl;rw [this];exact Imp.trans (b:=bk b1 27 (stageC su src sa sn sc ra rn rc)::cs) drp drp)⟩,fun _=>⟨a,c,ch,l,rfl,hr,hfl,hl,Imp.refl _⟩⟩))
end
end Go.Proofs.YtbjlfobjngogkaaGreatDoor
namespace Go.Proofs.YtbjlfobjngogkaaGreatDoor
open Go
variable {K:Value→SP} {cs:St}
@[reducible] def s306 (x0:ByteArray) (K:Value→SP):SP:=
 new 412 fun a1=>fn 370 []<|fun v2=>unL v2 fun a3 n4 c5=>Jn (fun _=>Jn (fun l8=>unI .i64 (l8.headD undef) fun i10=>unB (l8.tail.headD undef) fun b11=>Jn (fun l12=>unI .i64 (l12.headD undef) fun i14=>fn 373 [.slice a3 n4 c5]<|fun v15=>unA v15 fun a16=>new 412 fun a18=>st 412 (a18) (.agg (.mk a16))<|br (b11) (ldA 412 (a18) fun a21=>fn 374 [.agg (.mk a21)]<|fun v22=>unA v22 fun a23=>st 412 (a18) (.agg (.mk a23))<|ldA 412 (a18) fun a26=>st 412 (a1) (.agg (.mk a26))<|qy (loadVar 412 a1)<|fun v28=>unA v28 fun a29=>K (.tuple (Array.mk [.agg (.mk a29),.int .i64 (w64 (i14+1)),.int .i64 0])))<|ldA 412 (a18) fun a31=>st 412 (a1) (.agg (.mk a31))<|qy (loadVar 412 a1)<|fun v33=>unA v33 fun a34=>K (.tuple (Array.mk [.agg (.mk a34),.int .i64 (w64 (i14+1)),.int .i64 0])))<|fun j13=>Lp (fun self35 l36=>unI .i64 (l36.headD undef) fun i37=>unB (l36.tail.headD undef) fun b38=>Jn (fun _=>qy (Instr.sliceAt 9 (.string x0) (some (.int .i64 i37)) none none)<|fun v41=>unS v41 fun s42=>fn 372 [.string s42]<|fun v43=>unT v43 fun t44=>ex (0<t44.length)<|unI .i64 (t44.getD 0 undef) fun i45=>ex (1<t44.length)<|unI .i64 (t44.getD 1 undef) fun i46=>ex (2<t44.length)<|unB (t44.getD 2 undef) fun b47=>br (!b47) (fn 371 [.string x0,.int .i64 (w64 (i37+i46))]<|fun v48=>unT v48 fun t49=>ex (0<t49.length)<|unA (t49.getD 0 undef) fun a50=>ex (1<t49.length)<|unI .i64 (t49.getD 1 undef) fun i51=>ex (2<t49.length)<|unI .i64 (t49.getD 2 undef) fun i52=>st 412 (a1) (.agg (.mk a50))<|qy (loadVar 412 a1)<|fun v54=>unA v54 fun a55=>K (.tuple (Array.mk [.agg (.mk a55),.int .i64 i51,.int .i64 i52])))<|Jn (fun l56=>unI .i64 (l56.headD undef) fun i58=>unI .i64 (l56.tail.headD undef) fun i59=>Lp (fun self60 l61=>unI .i64 (l61.headD undef) fun i62=>br (decide (i62≤i59)) (ix 348 (.slice a3 n4 c5) (i62) fun a64=>st 4 (a64) (.bool true)<|self60 [.int .i64 (w64 (i62+1))])<|self35 [.int .i64 i58,.bool false]) [.int .i64 i45])<|fun j57=>br (decide (w64 (i37+i46)<(x0.size:Int))) (qy (Instr.index 9 (.string x0) (.int .i64 (w64 (i37+i46))))<|fun v66=>unI .u8 v66 fun n67=>br (n67 == 45) (qy (Instr.sliceAt 9 (.string x0) (some (.int .i64 (w64 (w64 (i37+i46)+1)))) none none)<|fun v68=>unS v68 fun s69=>fn 372 [.string s69]<|fun v70=>unT v70 fun t71=>ex (0<t71.length)<|unI .i64 (t71.getD 0 undef) fun i72=>ex (1<t71.length)<|unI .i64 (t71.getD 1 undef) fun i73=>ex (2<t71.length)<|unB (t71.getD 2 undef) fun b74=>br (!b74) (fn 371 [.string x0,.int .i64 (w64 (w64 (w64 (i37+i46)+1)+i73))]<|fun v75=>unT v75 fun t76=>ex (0<t76.length)<|unA (t76.getD 0 undef) fun a77=>ex (1<t76.length)<|unI .i64 (t76.getD 1 undef) fun i78=>ex (2<t76.length)<|unI .i64 (t76.getD 2 undef) fun i79=>st 412 (a1) (.agg (.mk a77))<|qy (loadVar 412 a1)<|fun v81=>unA v81 fun a82=>K (.tuple (Array.mk [.agg (.mk a82),.int .i64 i78,.int .i64 i79])))<|br (decide (i72<i45)) (qy (Instr.build 412 (Array.mk []))<|fun v83=>unA v83 fun a84=>st 412 (a1) (.agg (.mk a84))<|qy (loadVar 412 a1)<|fun v86=>unA v86 fun a87=>K (.tuple (Array.mk [.agg (.mk a87),.int .i64 (w64 (w64 (w64 (w64 (i37+i46)+1)+i73)-1)),.int .i64 12])))<|j57 [.int .i64 (w64 (w64 (w64 (i37+i46)+1)+i73)),.int .i64 i72])<|j57 [.int .i64 (w64 (i37+i46)),.int .i64 i45])<|j57 [.int .i64 (w64 (i37+i46)),.int .i64 i45])<|fun j40=>br (b38) (j40 [])<|br (i37 == (x0.size:Int)) (j40 [])<|qy (Instr.index 9 (.string x0) (.int .i64 i37))<|fun v88=>unI .u8 v88 fun n89=>br (n89 != 93) (j40 [])<|j13 [.int .i64 i37]) [.int .i64 i10,.bool true])<|fun j9=>br (decide ((x0.size:Int)>1)) (qy (Instr.index 9 (.string x0) (.int .i64 1))<|fun v90=>unI .u8 v90 fun n91=>br (n91 == 94) (j9 [.int .i64 2,.bool true])<|j9 [.int .i64 1,.bool false])<|j9 [.int .i64 1,.bool false])<|fun j7=>br (x0.toList == (bs []).toList) (fn 371 [.string x0,.int .i64 0]<|fun v92=>unT v92 fun t93=>ex (0<t93.length)<|unA (t93.getD 0 undef) fun a94=>ex (1<t93.length)<|unI .i64 (t93.getD 1 undef) fun i95=>ex (2<t93.length)<|unI .i64 (t93.getD 2 undef) fun i96=>st 412 (a1) (.agg (.mk a94))<|qy (loadVar 412 a1)<|fun v98=>unA v98 fun a99=>K (.tuple (Array.mk [.agg (.mk a99),.int .i64 i95,.int .i64 i96])))<|qy (Instr.index 9 (.string x0) (.int .i64 0))<|fun v100=>unI .u8 v100 fun n101=>br (n101 != 91) (fn 371 [.string x0,.int .i64 0]<|fun v102=>unT v102 fun t103=>ex (0<t103.length)<|unA (t103.getD 0 undef) fun a104=>ex (1<t103.length)<|unI .i64 (t103.getD 1 undef) fun i105=>ex (2<t103.length)<|unI .i64 (t103.getD 2 undef) fun i106=>st 412 (a1) (.agg (.mk a104))<|qy (loadVar 412 a1)<|fun v108=>unA v108 fun a109=>K (.tuple (Array.mk [.agg (.mk a109),.int .i64 i105,.int .i64 i106])))<|j7 []
theorem f306 {x0:ByteArray} (h:s306 x0 K cs):fn 306 [.string x0] K cs:=fO (an:=⟨[(7,[(6,.int .i64),(8,.bool)]),(22,[(13,.int .i64)])],[(4,[]),(6,[(6,.int .i64),(7,.bool)]),(25,[(6,.int .i64)]),(9,[]),(21,[(6,.int .i64),(12,.int .i64)])]⟩) Tryz.func306 h
@[reducible] def s307 (x0:Int) (x1:Int) (K:Value→SP):SP:=
 new 412 fun a1=>fn 370 []<|fun v2=>unL v2 fun a3 n4 c5=>Lp (fun self6 l7=>unI .i64 (l7.headD undef) fun i8=>br (decide (i8≤x1)) (ix 348 (.slice a3 n4 c5) (i8) fun a10=>st 4 (a10) (.bool true)<|self6 [.int .i64 (w64 (i8+1))])<|fn 373 [.slice a3 n4 c5]<|fun v12=>unA v12 fun a13=>st 412 (a1) (.agg (.mk a13))<|qy (loadVar 412 a1)<|fun v15=>unA v15 fun a16=>K (.agg (.mk a16))) [.int .i64 x0]
theorem f307 {x0 x1:Int} (h:s307 x0 x1 K cs):fn 307 [.int .i64 x0,.int .i64 x1] K cs:=fO (an:=⟨[(3,[(6,.int .i64)])],[]⟩) Tryz.func307 h
@[reducible] def s370 (K:Value→SP):SP:=
 qy (Instr.build 412 (Array.mk []))<|fun v0=>unA v0 fun a1=>fn 400 [.agg (.mk a1)]<|fun v2=>unL v2 fun a3 n4 c5=>K (.slice a3 n4 c5)
theorem f370 (h:s370 K cs):fn 370 [] K cs:=fO (an:=⟨[],[]⟩) Tryz.func370 h
@[reducible] def s372 (x0:ByteArray) (K:Value→SP):SP:=
 Jn (fun _=>qy (Instr.index 9 (.string x0) (.int .i64 0))<|fun v2=>unI .u8 v2 fun n3=>br (n3 != 37) (qy (Instr.index 9 (.string x0) (.int .i64 0))<|fun v4=>unI .u8 v4 fun n5=>K (.tuple (Array.mk [.int .i64 (w64 n5),.int .i64 1,.bool true])))<|br ((x0.size:Int) == 1) (K (.tuple (Array.mk [.int .i64 0,.int .i64 1,.bool false])))<|qy (Instr.index 9 (.string x0) (.int .i64 1))<|fun v6=>unI .u8 v6 fun n7=>K (.tuple (Array.mk [.int .i64 (w64 n7),.int .i64 2,.bool true])))<|fun j1=>br (x0.toList == (bs []).toList) (K (.tuple (Array.mk [.int .i64 0,.int .i64 0,.bool false])))<|qy (Instr.index 9 (.string x0) (.int .i64 0))<|fun v8=>unI .u8 v8 fun n9=>br (n9 == 93) (K (.tuple (Array.mk [.int .i64 0,.int .i64 0,.bool false])))<|qy (Instr.index 9 (.string x0) (.int .i64 0))<|fun v10=>unI .u8 v10 fun n11=>br (n11 == 45) (K (.tuple (Array.mk [.int .i64 0,.int .i64 0,.bool false])))<|j1 []
theorem f372 {x0:ByteArray} (h:s372 x0 K cs):fn 372 [.string x0] K cs:=fO (an:=⟨[],[(3,[])]⟩) Tryz.func372 h
@[reducible] def s373 (x0:Option Addr) (y0:Nat) (z0:Nat) (K:Value→SP):SP:=
 new 412 fun a1=>qy (Instr.build 412 (Array.mk []))<|fun v2=>unA v2 fun a3=>new 412 fun a5=>st 412 (a5) (.agg (.mk a3))<|Lp (fun self7 l8=>unI .i64 (l8.headD undef) fun i9=>br (decide (i9<4)) (Lp (fun self10 l11=>unI .i64 (l11.headD undef) fun i12=>br (decide (i12≥0)) (ix 412 (.pointer (some a5)) (i9) fun a14=>ldI .u64 396 (a14) fun n16=>ix 412 (.pointer (some a5)) (i9) fun a18=>st 396 (a18) (.int .u64 (IntKind.wrap .u64 (2*n16)))<|ix 348 (.slice x0 y0 z0) (w64 (w64 (64*i9)+i12)) fun a21=>ldB 4 (a21) fun b23=>br (b23) (ix 412 (.pointer (some a5)) (i9) fun a25=>ldI .u64 396 (a25) fun n27=>ix 412 (.pointer (some a5)) (i9) fun a29=>st 396 (a29) (.int .u64 (IntKind.wrap .u64 (n27+1)))<|self10 [.int .i64 (w64 (i12-1))])<|self10 [.int .i64 (w64 (i12-1))])<|self7 [.int .i64 (w64 (i9+1))]) [.int .i64 63])<|ldA 412 (a5) fun a32=>st 412 (a1) (.agg (.mk a32))<|qy (loadVar 412 a1)<|fun v34=>unA v34 fun a35=>K (.agg (.mk a35))) [.int .i64 0]
theorem f373 {x0:Option Addr} {y0 z0:Nat} (h:s373 x0 y0 z0 K cs):fn 373 [.slice x0 y0 z0] K cs:=fO (an:=⟨[(3,[(4,.int .i64)]),(6,[(5,.int .i64)])],[]⟩) Tryz.func373 h
@[reducible] def s374 (x0:List Value) (K:Value→SP):SP:=
 box 412 (.agg (.mk x0)) fun a1=>new 412 fun a3=>ldA 412 (a1) fun a5=>fn 400 [.agg (.mk a5)]<|fun v6=>unL v6 fun a7 n8 c9=>Lp (fun self10 l11=>unI .i64 (l11.headD undef) fun i12=>br (decide (i12<256)) (ix 348 (.slice a7 n8 c9) (i12) fun a14=>ldB 4 (a14) fun b16=>ix 348 (.slice a7 n8 c9) (i12) fun a18=>st 4 (a18) (.bool !b16)<|self10 [.int .i64 (w64 (i12+1))])<|fn 373 [.slice a7 n8 c9]<|fun v20=>unA v20 fun a21=>st 412 (a3) (.agg (.mk a21))<|qy (loadVar 412 a3)<|fun v23=>unA v23 fun a24=>K (.agg (.mk a24))) [.int .i64 0]
theorem f374 {x0:List Value} (h:s374 x0 K cs):fn 374 [.agg (.mk x0)] K cs:=fO (an:=⟨[(3,[(4,.int .i64)])],[]⟩) Tryz.func374 h
@[reducible] def s375 (x0:List Value) (x1:Int) (K:Value→SP):SP:=
 box 412 (.agg (.mk x0)) fun a1=>ix 412 (.pointer (some a1)) (w64 (x1.tdiv 64)) fun a3=>ldI .u64 396 (a3) fun n5=>Lp (fun self6 l7=>unI .u64 (l7.headD undef) fun i8=>unI .i64 (l7.tail.headD undef) fun i9=>br (decide (i9>0)) (self6 [.int .u64 (IntKind.wrap .u64 (i8.tdiv 2)),.int .i64 (w64 (i9-1))])<|K (.bool (i8.tmod 2 == 1))) [.int .u64 n5,.int .i64 (x1.tmod 64)]
theorem f375 {x0:List Value} {x1:Int} (h:s375 x0 x1 K cs):fn 375 [.agg (.mk x0),.int .i64 x1] K cs:=fO (an:=⟨[(3,[(5,.int .u64),(6,.int .i64)])],[]⟩) Tryz.func375 h
@[reducible] def s400 (x0:List Value) (K:Value→SP):SP:=
 box 412 (.agg (.mk x0)) fun a1=>sm (Instr.buildSlice 348 0 (Array.mk []))<|fun v2=>unL v2 fun a3 n4 c5=>Lp (fun self6 l7=>unL (l7.headD undef) fun a8 n9 c10=>unI .i64 (l7.tail.headD undef) fun i11=>br (decide (i11<256)) (ldA 412 (a1) fun a13=>fn 375 [.agg (.mk a13),.int .i64 i11]<|fun v14=>unB v14 fun b15=>sm (Instr.buildSlice 348 1 (Array.mk [(0,.bool b15)]))<|fun v16=>unL v16 fun a17 n18 c19=>sm (Builtin.append_ (Array.mk [348,348]) 348 (Array.mk [.slice a8 n9 c10,.slice a17 n18 c19]))<|fun v20=>unL v20 fun a21 n22 c23=>self6 [.slice a21 n22 c23,.int .i64 (w64 (i11+1))])<|K (.slice a8 n9 c10)) [.slice a3 n4 c5,.int .i64 0]
theorem f400 {x0:List Value} (h:s400 x0 K cs):fn 400 [.agg (.mk x0)] K cs:=fO (an:=⟨[(3,[(3,.sl),(4,.int .i64)])],[]⟩) Tryz.func400 h
@[reducible] def s208 (x0:ByteArray) (K:Value→SP):SP:=
 sm (Instr.buildSlice 246 0 (Array.mk []))<|fun v0=>unL v0 fun a1 n2 c3=>Lp (fun self4 l5=>unL (l5.headD undef) fun a6 n7 c8=>unI .i64 (l5.tail.headD undef) fun i9=>br (decide (i9<(x0.size:Int))) (br ((n7:Int) == 60) (K (.tuple (Array.mk [.slice none 0 0,.int .i64 i9,.int .i64 4])))<|qy (Instr.index 9 (.string x0) (.int .i64 i9))<|fun v10=>unI .u8 v10 fun n11=>br (n11 == 93) (K (.tuple (Array.mk [.slice none 0 0,.int .i64 i9,.int .i64 2])))<|br (n11 == 91) (qy (Instr.sliceAt 9 (.string x0) (some (.int .i64 i9)) none none)<|fun v12=>unS v12 fun s13=>fn 306 [.string s13]<|fun v14=>unT v14 fun t15=>ex (0<t15.length)<|unA (t15.getD 0 undef) fun a16=>ex (1<t15.length)<|unI .i64 (t15.getD 1 undef) fun i17=>ex (2<t15.length)<|unI .i64 (t15.getD 2 undef) fun i18=>new 412 fun a20=>st 412 (a20) (.agg (.mk a16))<|br (i18 != 0) (K (.tuple (Array.mk [.slice none 0 0,.int .i64 (w64 (i9+i17)),.int .i64 i18])))<|ldA 412 (a20) fun a23=>qy (Instr.build 416 (Array.mk [(1,.agg (.mk a23))]))<|fun v24=>unA v24 fun a25=>sm (Instr.buildSlice 246 1 (Array.mk [(0,.agg (.mk a25))]))<|fun v26=>unL v26 fun a27 n28 c29=>sm (Builtin.append_ (Array.mk [246,246]) 246 (Array.mk [.slice a6 n7 c8,.slice a27 n28 c29]))<|fun v30=>unL v30 fun a31 n32 c33=>self4 [.slice a31 n32 c33,.int .i64 (w64 (i9+i17))])<|br (n11 == 42) (sm (Instr.buildSlice 246 1 (Array.mk [(0,.agg (.mk [.bool true,.int .u64 0,.int .u64 0,.int .u64 0,.int .u64 0]))]))<|fun v34=>unL v34 fun a35 n36 c37=>sm (Builtin.append_ (Array.mk [246,246]) 246 (Array.mk [.slice a6 n7 c8,.slice a35 n36 c37]))<|fun v38=>unL v38 fun a39 n40 c41=>self4 [.slice a39 n40 c41,.int .i64 (w64 (i9+1))])<|br (n11 == 63) (fn 307 [.int .i64 0,.int .i64 255]<|fun v42=>unA v42 fun a43=>qy (Instr.build 416 (Array.mk [(1,.agg (.mk a43))]))<|fun v44=>unA v44 fun a45=>sm (Instr.buildSlice 246 1 (Array.mk [(0,.agg (.mk a45))]))<|fun v46=>unL v46 fun a47 n48 c49=>sm (Builtin.append_ (Array.mk [246,246]) 246 (Array.mk [.slice a6 n7 c8,.slice a47 n48 c49]))<|fun v50=>unL v50 fun a51 n52 c53=>self4 [.slice a51 n52 c53,.int .i64 (w64 (i9+1))])<|Jn (fun l54=>unI .i64 (l54.headD undef) fun i56=>unI .u8 (l54.tail.headD undef) fun i57=>fn 307 [.int .i64 (w64 i57),.int .i64 (w64 i57)]<|fun v58=>unA v58 fun a59=>qy (Instr.build 416 (Array.mk [(1,.agg (.mk a59))]))<|fun v60=>unA v60 fun a61=>sm (Instr.buildSlice 246 1 (Array.mk [(0,.agg (.mk a61))]))<|fun v62=>unL v62 fun a63 n64 c65=>sm (Builtin.append_ (Array.mk [246,246]) 246 (Array.mk [.slice a6 n7 c8,.slice a63 n64 c65]))<|fun v66=>unL v66 fun a67 n68 c69=>self4 [.slice a67 n68 c69,.int .i64 i56])<|fun j55=>br (n11 == 37) (br (w64 (i9+1) == (x0.size:Int)) (K (.tuple (Array.mk [.slice none 0 0,.int .i64 (w64 (i9+1)),.int .i64 3])))<|qy (Instr.index 9 (.string x0) (.int .i64 (w64 (i9+1))))<|fun v70=>unI .u8 v70 fun n71=>j55 [.int .i64 (w64 (w64 (i9+1)+1)),.int .u8 n71])<|j55 [.int .i64 (w64 (i9+1)),.int .u8 n11])<|K (.tuple (Array.mk [.slice a6 n7 c8,.int .i64 0,.int .i64 0]))) [.slice a1 n2 c3,.int .i64 0]
theorem f208 {x0:ByteArray} (h:s208 x0 K cs):fn 208 [.string x0] K cs:=fO (an:=⟨[(2,[(5,.sl),(6,.int .i64)])],[(24,[(6,.int .i64),(7,.int .u8)])]⟩) Tryz.func208 h
@[reducible] def s209 (x0:Option Addr) (y0:Nat) (z0:Nat) (K:Value→SP):SP:=
 Lp (fun self0 l1=>unI .i64 (l1.headD undef) fun i2=>unI .i64 (l1.tail.headD undef) fun i3=>br (decide (i3<(y0:Int))) (ix 246 (.slice x0 y0 z0) (i3) fun a5=>ldB 4 (a5.add 0) fun b7=>br (!b7) (self0 [.int .i64 (w64 (i2+1)),.int .i64 (w64 (i3+1))])<|self0 [.int .i64 i2,.int .i64 (w64 (i3+1))])<|K (.int .i64 i2)) [.int .i64 0,.int .i64 0]
theorem f209 {x0:Option Addr} {y0 z0:Nat} (h:s209 x0 y0 z0 K cs):fn 209 [.slice x0 y0 z0] K cs:=fO (an:=⟨[(3,[(3,.int .i64),(4,.int .i64)])],[]⟩) Tryz.func209 h
@[reducible] def s130 (x0:ByteArray) (K:Value→SP):SP:=
 fn 208 [.string x0]<|fun v0=>unT v0 fun t1=>ex (0<t1.length)<|unL (t1.getD 0 undef) fun a2 n3 c4=>ex (1<t1.length)<|unI .i64 (t1.getD 1 undef) fun i5=>ex (2<t1.length)<|unI .i64 (t1.getD 2 undef) fun i6=>br (i6 == 0) (fn 209 [.slice a2 n3 c4]<|fun v7=>unI .i64 v7 fun n8=>br (n8 == 0) (K (.tuple (Array.mk [.slice none 0 0,.int .i64 0,.int .i64 9])))<|K (.tuple (Array.mk [.slice a2 n3 c4,.int .i64 i5,.int .i64 i6])))<|K (.tuple (Array.mk [.slice a2 n3 c4,.int .i64 i5,.int .i64 i6]))
theorem f130 {x0:ByteArray} (h:s130 x0 K cs):fn 130 [.string x0] K cs:=fO (an:=⟨[],[]⟩) Tryz.func130 h
@[reducible] def s187 (x0:ByteArray) (K:Value→SP):SP:=
 Lp (fun self0 l1=>unI .i64 (l1.headD undef) fun i2=>br (decide (i2<(x0.size:Int))) (Jn (fun l3=>unB (l3.headD undef) fun b5=>unB (l3.tail.headD undef) fun b6=>br (!b5) (br (!b6) (K (.bool false))<|br (i2 == 0) (K (.bool false))<|self0 [.int .i64 (w64 (i2+1))])<|self0 [.int .i64 (w64 (i2+1))])<|fun j4=>qy (Instr.index 9 (.string x0) (.int .i64 i2))<|fun v7=>unI .u8 v7 fun n8=>br (decide (n8≥97)) (qy (Instr.index 9 (.string x0) (.int .i64 i2))<|fun v9=>unI .u8 v9 fun n10=>qy (Instr.index 9 (.string x0) (.int .i64 i2))<|fun v11=>unI .u8 v11 fun n12=>br (decide (n12≥48)) (qy (Instr.index 9 (.string x0) (.int .i64 i2))<|fun v13=>unI .u8 v13 fun n14=>j4 [.bool (decide (n10≤122)),.bool (decide (n14≤57))])<|j4 [.bool (decide (n10≤122)),.bool false])<|qy (Instr.index 9 (.string x0) (.int .i64 i2))<|fun v15=>unI .u8 v15 fun n16=>br (decide (n16≥48)) (qy (Instr.index 9 (.string x0) (.int .i64 i2))<|fun v17=>unI .u8 v17 fun n18=>j4 [.bool false,.bool (decide (n18≤57))])<|j4 [.bool false,.bool false])<|br (decide ((x0.size:Int)>0)) (K (.bool (decide ((x0.size:Int)<17))))<|K (.bool false)) [.int .i64 0]
theorem f187 {x0:ByteArray} (h:s187 x0 K cs):fn 187 [.string x0] K cs:=fO (an:=⟨[(2,[(3,.int .i64)])],[(5,[(4,.bool),(5,.bool)])]⟩) Tryz.func187 h
@[reducible] def s42 (x0:List Value) (K:Value→SP):SP:=
 box 45 (.agg (.mk x0)) fun a1=>ldA 45 (a1) fun a3=>fn 113 [.agg (.mk a3)]<|fun v4=>unT v4 fun t5=>ex (0<t5.length)<|unI .i64 (t5.getD 0 undef) fun _=>ex (1<t5.length)<|unI .i64 (t5.getD 1 undef) fun i7=>K (.bool (i7 == 0))
theorem f42 {x0:List Value} (h:s42 x0 K cs):fn 42 [.agg (.mk x0)] K cs:=fO (an:=⟨[],[]⟩) Tryz.func42 h
@[reducible] def s113 (x0:List Value) (K:Value→SP):SP:=
 box 45 (.agg (.mk x0)) fun a1=>ldS 9 (a1.add 0) fun s3=>fn 187 [.string s3]<|fun v4=>unB v4 fun b5=>br (!b5) (K (.tuple (Array.mk [.int .i64 (-1),.int .i64 10])))<|Jn (fun _=>ldL 43 (a1.add 3) fun _ n10 _=>br (decide ((n10:Int)>200)) (K (.tuple (Array.mk [.int .i64 (-1),.int .i64 4])))<|Lp (fun self12 l13=>unI .i64 (l13.headD undef) fun i14=>ldL 43 (a1.add 3) fun _ n17 _=>br (decide (i14<(n17:Int))) (ldA 45 (a1) fun a20=>ldL 43 (a1.add 3) fun a22 n23 c24=>ix 43 (.slice a22 n23 c24) (i14) fun a26=>ldA 97 (a26) fun a28=>fn 188 [.agg (.mk a20),.agg (.mk a28)]<|fun v29=>unI .i64 v29 fun n30=>br (n30 != 0) (K (.tuple (Array.mk [.int .i64 i14,.int .i64 n30])))<|self12 [.int .i64 (w64 (i14+1))])<|K (.tuple (Array.mk [.int .i64 0,.int .i64 0]))) [.int .i64 0])<|fun j7=>ldI .i64 2 (a1.add 1) fun n32=>br (n32 != 9223372036854775807) (ldI .i64 2 (a1.add 1) fun n34=>br (decide (n34<1)) (K (.tuple (Array.mk [.int .i64 (-1),.int .i64 12])))<|ldI .i64 2 (a1.add 1) fun n36=>br (decide (n36>1000000000000)) (K (.tuple (Array.mk [.int .i64 (-1),.int .i64 12])))<|ldI .i64 3 (a1.add 2) fun n38=>br (decide (n38<0)) (K (.tuple (Array.mk [.int .i64 (-1),.int .i64 12])))<|ldI .i64 3 (a1.add 2) fun n40=>br (decide (n40>1000)) (K (.tuple (Array.mk [.int .i64 (-1),.int .i64 12])))<|j7 [])<|ldI .i64 3 (a1.add 2) fun n42=>br (decide (n42<0)) (K (.tuple (Array.mk [.int .i64 (-1),.int .i64 12])))<|ldI .i64 3 (a1.add 2) fun n44=>br (decide (n44>1000)) (K (.tuple (Array.mk [.int .i64 (-1),.int .i64 12])))<|j7 []
theorem f113 {x0:List Value} (h:s113 x0 K cs):fn 113 [.agg (.mk x0)] K cs:=fO (an:=⟨[(8,[(4,.int .i64)])],[(5,[])]⟩) Tryz.func113 h
@[reducible] def s188 (x0:List Value) (x1:List Value) (K:Value→SP):SP:=
 box 45 (.agg (.mk x0)) fun a1=>box 97 (.agg (.mk x1)) fun a3=>Jn (fun _=>ldA 97 (a3) fun a7=>fn 285 [.agg (.mk a7)]<|fun v8=>unB v8 fun b9=>br (!b9) (K (.int .i64 2))<|Jn (fun _=>Jn (fun _=>ldI .i64 3 (a3.add 0) fun n15=>br (n15 == 2) (ldA 45 (a1) fun a17=>ldA 97 (a3) fun a19=>fn 286 [.agg (.mk a17),.agg (.mk a19)]<|fun v20=>unI .i64 v20 fun n21=>K (.int .i64 n21))<|Jn (fun _=>ldI .i64 3 (a3.add 0) fun n25=>br (n25 == 4) (ldI .i64 2 (a3.add 2) fun n27=>br (decide (n27<0)) (K (.int .i64 12))<|ldI .i64 2 (a3.add 2) fun n29=>br (decide (n29>1000000000000)) (K (.int .i64 12))<|K (.int .i64 0))<|K (.int .i64 0))<|fun j23=>ldI .i64 3 (a3.add 0) fun n31=>br (n31 == 3) (ldA 45 (a1) fun a33=>ldI .i64 3 (a3.add 3) fun n35=>fn 287 [.agg (.mk a33),.int .i64 n35]<|fun v36=>unB v36 fun b37=>br (!b37) (K (.int .i64 13))<|j23 [])<|j23 [])<|fun j13=>ldI .i64 3 (a3.add 0) fun n39=>br (n39 == 1) (ldS 9 (a3.add 1) fun s41=>br (decide ((s41.size:Int)>256)) (K (.int .i64 4))<|j13 [])<|j13 [])<|fun j11=>ldI .i64 3 (a3.add 0) fun n43=>br (n43 == 1) (ldS 9 (a3.add 1) fun s45=>br (s45.toList == (bs []).toList) (K (.int .i64 9))<|j11 [])<|j11 [])<|fun j5=>ldI .i64 3 (a3.add 0) fun n47=>br (decide (n47<1)) (K (.int .i64 11))<|ldI .i64 3 (a3.add 0) fun n49=>br (decide (n49>6)) (K (.int .i64 11))<|j5 []
theorem f188 {x0 x1:List Value} (h:s188 x0 x1 K cs):fn 188 [.agg (.mk x0),.agg (.mk x1)] K cs:=fO (an:=⟨[],[(3,[]),(7,[]),(9,[]),(13,[])]⟩) Tryz.func188 h
@[reducible] def s285 (x0:List Value) (K:Value→SP):SP:=
 box 97 (.agg (.mk x0)) fun a1=>Jn (fun _=>ldI .i64 3 (a1.add 0) fun n5=>br (n5 == 2) (K (.bool true))<|ldL 95 (a1.add 4) fun _ n8 _=>br ((n8:Int) == 0) (ldI .i64 3 (a1.add 5) fun n11=>br (n11 == 0) (ldI .i64 3 (a1.add 6) fun n13=>K (.bool (n13 == 0)))<|K (.bool false))<|K (.bool false))<|fun j3=>ldI .i64 3 (a1.add 0) fun n15=>br (n15 != 1) (ldS 9 (a1.add 1) fun s17=>br (!s17.toList == (bs []).toList) (K (.bool false))<|ldI .i64 3 (a1.add 0) fun n19=>br (n19 != 2) (ldI .i64 3 (a1.add 0) fun n21=>br (n21 != 4) (ldI .i64 2 (a1.add 2) fun n23=>br (n23 != 0) (K (.bool false))<|ldI .i64 3 (a1.add 0) fun n25=>br (n25 != 3) (ldI .i64 3 (a1.add 3) fun n27=>br (n27 != 0) (K (.bool false))<|j3 [])<|j3 [])<|ldI .i64 3 (a1.add 0) fun n29=>br (n29 != 3) (ldI .i64 3 (a1.add 3) fun n31=>br (n31 != 0) (K (.bool false))<|j3 [])<|j3 [])<|ldI .i64 3 (a1.add 0) fun n33=>br (n33 != 3) (ldI .i64 3 (a1.add 3) fun n35=>br (n35 != 0) (K (.bool false))<|j3 [])<|j3 [])<|ldI .i64 3 (a1.add 0) fun n37=>br (n37 != 2) (ldI .i64 3 (a1.add 0) fun n39=>br (n39 != 4) (ldI .i64 2 (a1.add 2) fun n41=>br (n41 != 0) (K (.bool false))<|ldI .i64 3 (a1.add 0) fun n43=>br (n43 != 3) (ldI .i64 3 (a1.add 3) fun n45=>br (n45 != 0) (K (.bool false))<|j3 [])<|j3 [])<|ldI .i64 3 (a1.add 0) fun n47=>br (n47 != 3) (ldI .i64 3 (a1.add 3) fun n49=>br (n49 != 0) (K (.bool false))<|j3 [])<|j3 [])<|ldI .i64 3 (a1.add 0) fun n51=>br (n51 != 3) (ldI .i64 3 (a1.add 3) fun n53=>br (n53 != 0) (K (.bool false))<|j3 [])<|j3 []
theorem f285 {x0:List Value} (h:s285 x0 K cs):fn 285 [.agg (.mk x0)] K cs:=fO (an:=⟨[],[(3,[])]⟩) Tryz.func285 h
@[reducible] def s286 (x0:List Value) (x1:List Value) (K:Value→SP):SP:=
 box 45 (.agg (.mk x0)) fun a1=>box 97 (.agg (.mk x1)) fun a3=>Jn (fun _=>ldL 95 (a3.add 4) fun _ n8 _=>br (decide ((n8:Int)>8)) (K (.int .i64 4))<|Lp (fun self10 l11=>unI .i64 (l11.headD undef) fun i12=>ldL 95 (a3.add 4) fun _ n15 _=>br (decide (i12<(n15:Int))) (ldL 95 (a3.add 4) fun a18 n19 c20=>ix 95 (.slice a18 n19 c20) (i12) fun a22=>ldS 9 (a22.add 0) fun s24=>br (decide ((s24.size:Int)>64)) (K (.int .i64 4))<|ldL 95 (a3.add 4) fun a26 n27 c28=>ix 95 (.slice a26 n27 c28) (i12) fun a30=>ldS 9 (a30.add 0) fun s32=>fn 130 [.string s32]<|fun v33=>unT v33 fun t34=>ex (0<t34.length)<|unL (t34.getD 0 undef) fun _ _ _=>ex (1<t34.length)<|unI .i64 (t34.getD 1 undef) fun _=>ex (2<t34.length)<|unI .i64 (t34.getD 2 undef) fun i39=>br (i39 != 0) (K (.int .i64 i39))<|ldA 45 (a1) fun a41=>ldL 95 (a3.add 4) fun a43 n44 c45=>ix 95 (.slice a43 n44 c45) (i12) fun a47=>ldI .i64 3 (a47.add 1) fun n49=>fn 287 [.agg (.mk a41),.int .i64 n49]<|fun v50=>unB v50 fun b51=>br (!b51) (K (.int .i64 13))<|self10 [.int .i64 (w64 (i12+1))])<|ldI .i64 3 (a3.add 5) fun n53=>br (n53 != -1) (ldA 45 (a1) fun a55=>ldI .i64 3 (a3.add 5) fun n57=>fn 287 [.agg (.mk a55),.int .i64 n57]<|fun v58=>unB v58 fun b59=>br (!b59) (K (.int .i64 13))<|ldI .i64 3 (a3.add 6) fun n61=>br (n61 != -1) (ldA 45 (a1) fun a63=>ldI .i64 3 (a3.add 6) fun n65=>fn 287 [.agg (.mk a63),.int .i64 n65]<|fun v66=>unB v66 fun b67=>br (!b67) (K (.int .i64 13))<|K (.int .i64 0))<|K (.int .i64 0))<|ldI .i64 3 (a3.add 6) fun n69=>br (n69 != -1) (ldA 45 (a1) fun a71=>ldI .i64 3 (a3.add 6) fun n73=>fn 287 [.agg (.mk a71),.int .i64 n73]<|fun v74=>unB v74 fun b75=>br (!b75) (K (.int .i64 13))<|K (.int .i64 0))<|K (.int .i64 0)) [.int .i64 0])<|fun j5=>ldI .i64 2 (a3.add 2) fun n77=>br (n77 != 9223372036854775807) (ldI .i64 2 (a3.add 2) fun n79=>br (decide (n79<0)) (K (.int .i64 12))<|ldI .i64 2 (a3.add 2) fun n81=>br (decide (n81>1000000000000)) (K (.int .i64 12))<|j5 [])<|j5 []
theorem f286 {x0 x1:List Value} (h:s286 x0 x1 K cs):fn 286 [.agg (.mk x0),.agg (.mk x1)] K cs:=fO (an:=⟨[(6,[(5,.int .i64)])],[(3,[])]⟩) Tryz.func286 h
@[reducible] def s287 (x0:List Value) (x1:Int) (K:Value→SP):SP:=
 box 45 (.agg (.mk x0)) fun a1=>br (decide (x1≥0)) (ldL 43 (a1.add 3) fun _ n4 _=>K (.bool (decide (x1≤(n4:Int)))))<|K (.bool false)
theorem f287 {x0:List Value} {x1:Int} (h:s287 x0 x1 K cs):fn 287 [.agg (.mk x0),.int .i64 x1] K cs:=fO (an:=⟨[],[]⟩) Tryz.func287 h
@[reducible] def s35 (x0:List Value) (K:Value→SP):SP:=
 box 23 (.agg (.mk x0)) fun a1=>ldI .i64 3 (a1.add 0) fun n3=>ldI .i64 3 (a1.add 1) fun n5=>ldI .i64 3 (a1.add 2) fun n7=>ldI .i64 3 (a1.add 3) fun n9=>ldI .i64 3 (a1.add 4) fun n11=>ldI .i64 3 (a1.add 5) fun n13=>sm (Instr.buildSlice 34 6 (Array.mk [(0,.int .i64 n3),(1,.int .i64 n5),(2,.int .i64 n7),(3,.int .i64 n9),(4,.int .i64 n11),(5,.int .i64 n13)]))<|fun v14=>unL v14 fun a15 n16 c17=>sm (Instr.buildSlice 34 6 (Array.mk [(0,.int .i64 1024),(1,.int .i64 4096),(2,.int .i64 4096),(3,.int .i64 4096),(4,.int .i64 1000000),(5,.int .i64 64)]))<|fun v18=>unL v18 fun a19 n20 c21=>Lp (fun self22 l23=>unI .i64 (l23.headD undef) fun i24=>br (decide (i24<(n16:Int))) (ix 34 (.slice a15 n16 c17) (i24) fun a26=>ldI .i64 3 (a26) fun n28=>br (decide (n28<1)) (K (.bool false))<|ix 34 (.slice a15 n16 c17) (i24) fun a30=>ldI .i64 3 (a30) fun n32=>ix 34 (.slice a19 n20 c21) (i24) fun a34=>ldI .i64 3 (a34) fun n36=>br (decide (n32>n36)) (K (.bool false))<|self22 [.int .i64 (w64 (i24+1))])<|K (.bool true)) [.int .i64 0]
theorem f35 {x0:List Value} (h:s35 x0 K cs):fn 35 [.agg (.mk x0)] K cs:=fO (an:=⟨[(3,[(5,.int .i64)])],[]⟩) Tryz.func35 h
@[reducible] def s13 (x0:List Value) (x1:List Value) (K:Value→SP):SP:=
 box 23 (.agg (.mk x0)) fun a1=>box 45 (.agg (.mk x1)) fun a3=>Jn (fun _=>ldL 43 (a3.add 3) fun _ n8 _=>Lp (fun self10 l11=>unI .i64 (l11.headD undef) fun i12=>unI .i64 (l11.tail.headD undef) fun i13=>ldL 43 (a3.add 3) fun _ n16 _=>br (decide (i13<(n16:Int))) (ldL 43 (a3.add 3) fun a19 n20 c21=>ix 43 (.slice a19 n20 c21) (i13) fun a23=>ldS 9 (a23.add 1) fun s25=>Lp (fun self26 l27=>unI .i64 (l27.headD undef) fun i28=>unI .i64 (l27.tail.headD undef) fun i29=>br (decide (i29>0)) (ldI .i64 3 (a1.add 3) fun n31=>self26 [.int .i64 (w64 (i28+1)),.int .i64 (w64 (i29-n31))])<|self10 [.int .i64 i28,.int .i64 (w64 (i13+1))]) [.int .i64 i12,.int .i64 (s25.size:Int)])<|K (.int .i64 i12)) [.int .i64 (w64 (1+(n8:Int))),.int .i64 0])<|fun j5=>ldA 23 (a1) fun a33=>fn 35 [.agg (.mk a33)]<|fun v34=>unB v34 fun b35=>br (!b35) (K (.int .i64 0))<|ldA 45 (a3) fun a37=>fn 42 [.agg (.mk a37)]<|fun v38=>unB v38 fun b39=>br (!b39) (K (.int .i64 0))<|j5 []
theorem f13 {x0 x1:List Value} (h:s13 x0 x1 K cs):fn 13 [.agg (.mk x0),.agg (.mk x1)] K cs:=fO (an:=⟨[(5,[(5,.int .i64),(6,.int .i64)]),(8,[(5,.int .i64),(7,.int .i64)])],[(3,[])]⟩) Tryz.func13 h
end Go.Proofs.YtbjlfobjngogkaaGreatDoor
namespace Go.Proofs.YtbjlfobjngogkaaGreatDoor
open Go
set_option synthInstance.maxSize 100000
set_option synthInstance.maxHeartbeats 1000000
set_option maxRecDepth 100000
@[reducible] def encBo:Enc Bool 1:=⟨fun x=>[.bool x],by omega,fun _=>rfl⟩
instance fdBo:FdB encBo 0 id:=⟨fun _=>rfl⟩
instance rwB0 {α:Type} {T sz by_:Nat} {cs:St} {e:Enc α sz} {a:Option Addr} {n c:Nat} {l:List α} {t t':Nat} {i:Int} [p:SlcT t T sz by_] [q:PlT t'] [r:Rw T sz cs a n c e l] {f:α→Bool} {K:Bool→SP} [d:FdB e 0 f]:
  Go1 (ix t (.slice a n c) i (fun p=>ldB t' p K) cs) ((0≤i∧i<n)∧∀x,l[i.toNat]? =some x→K (f x) cs):=
 ⟨fun h=>rw_cell0 p q r.h h.1 d.h fun x hx=>⟨f x,rfl,h.2 x hx⟩⟩
@[reducible] def w4 (a b c d:Int):List Value:=[.int .u64 a,.int .u64 b,.int .u64 c,.int .u64 d]
section
variable {cs:St} {K:Value→SP} {w0 w1 w2 w3:Int}
instance c375 {b:Int}:Go1 (fn 375 [.agg ⟨w4 w0 w1 w2 w3⟩,.int .i64 b] K cs) ((0≤b∧b<256)∧∀x:Bool,K (.bool x) cs):=⟨fun⟨hb,h⟩=>up0 (by
 show fn 375 [.agg ⟨List.map (Value.int .u64) [w0,w1,w2,w3]⟩,.int .i64 b] _ _
 refine f375 ?_
 unfold s375
 have e1:b.tdiv 64=b / 64:=Int.tdiv_eq_ediv_of_nonneg (by omega)
 have e2:b.tmod 64=b % 64:=Int.tmod_eq_emod_of_nonneg (by omega)
 rw [e1,e2,w64_id (by omega)]
 refine go fun b1=>⟨⟨by omega,by omega⟩,by simp;omega,?_⟩
 refine lp (fun y:Int×Int=>[.int .u64 y.1,.int .i64 y.2]) (fun _=>cs) (fun y=>y.2<64∧-1<y.2) (fun y=>y.2.toNat) (_,b % 64) rfl drp ⟨by simp only;omega,by simp only;omega⟩ ?_
 rintro⟨i,k⟩ ⟨i1,i2⟩
 dsimp only at *
 refine go ?_
 simp only [decide_eq_true_eq,decide_eq_false_iff_not]
 exact⟨fun c=>⟨(_,k-1),by rw [w64_id (by omega)],Imp.refl _,⟨by simp only;omega,by simp only;omega⟩,by simp only;omega⟩,fun c=>fin (h _)⟩)⟩
instance c400:Go1 (fn 400 [.agg ⟨w4 w0 w1 w2 w3⟩] K cs) (∀a c ch l,Row 4 1 a 256 c encBo l ch→K (.slice a 256 c) (ch::cs)):=⟨fun h=>up0 (f400 (by
 unfold s400
 refine go fun b1=>⟨by decide,fun b2=> ?_⟩
 refine lp (fun y:Nat×Option Addr×Nat×Chunk×List Bool=>[.slice y.2.1 y.1 y.2.2.1,.int .i64 y.1]) (fun y=>y.2.2.2.1::bk b1 412 (w4 w0 w1 w2 w3)::cs) (fun y=>y.1≤256∧Row 4 1 y.2.1 y.1 y.2.2.1 encBo y.2.2.2.2 y.2.2.2.1) (fun y=>256-y.1)
  (0,some (ad b2 0),0,bk b2 4 [],[]) rfl drp ⟨Nat.zero_le _,⟨Sl.mk (T:=4) (sz:=1) b2 0 0 [] [] [] rfl rfl (Nat.le_refl _) (by omega)⟩⟩ ?_
 rintro⟨i,a,c,ch,l⟩ ⟨i1,i2⟩
 dsimp only at *
 refine go ?_
 simp only [decide_eq_true_eq,decide_eq_false_iff_not]
 refine⟨fun c0=>⟨⟨by omega,by omega⟩,fun x=>⟨⟨by omega,by omega,by omega⟩,x,rfl,fun a' c' ch' r'=>⟨(i+1,a',c',ch',l++[x]),by rw [w64_succ (by omega)],drp,⟨by simp only;omega,r'⟩,by simp only;omega⟩⟩⟩,fun c0=> ?_⟩
 have e:i=256:=by omega
 subst e
 exact fin (h a c ch l i2)))⟩
instance c370:Go1 (fn 370 [] K cs) (∀a c ch l,Row 4 1 a 256 c encBo l ch→K (.slice a 256 c) (ch::cs)):=⟨fun h=>up0 (f370 (by
 unfold s370
 refine go ?_
 rw [wv0]
 exact go fun a c ch l r=>fin (h a c ch l r)))⟩
instance c373 {a:Option Addr} {c:Nat} {l:List Bool} [r:Rw 4 1 cs a 256 c encBo l]:Go1 (fn 373 [.slice a 256 c] K cs) (∀v0 v1 v2 v3,K (.agg ⟨w4 v0 v1 v2 v3⟩) cs):=⟨fun h=>up0 (f373 (by
 unfold s373
 have hl:=r.h.len
 refine go fun b1 b2=> ?_
 refine lp (fun y:Nat×List Int=>[.int .i64 y.1]) (fun y=>bk b2 412 (List.map (Value.int .u64) y.2)::bk b1 412 (w4 0 0 0 0)::cs) (fun y=>y.1≤4∧y.2.length=4) (fun y=>4-y.1) (0,wI 0) rfl drp ⟨Nat.zero_le _,rfl⟩ ?_
 rintro⟨i,w⟩ ⟨i1,i2⟩
 dsimp only at *
 refine go ?_
 simp only [decide_eq_true_eq,decide_eq_false_iff_not]
 refine⟨fun c0=> ?_,fun c0=> ?_⟩
 ·refine lp (fun y:Int×List Int=>[.int .i64 y.1]) (fun y=>bk b2 412 (List.map (Value.int .u64) y.2)::bk b1 412 (w4 0 0 0 0)::cs) (fun y=>(-1≤y.1∧y.1≤63)∧y.2.length=4) (fun y=>(y.1+1).toNat) (63,w) rfl drp ⟨⟨by simp only;omega,by simp only;omega⟩,i2⟩ ?_
  rintro⟨k,u⟩ ⟨k1,k2⟩
  dsimp only at *
  refine go ?_
  simp only [decide_eq_true_eq,decide_eq_false_iff_not,Nat.zero_add,Int.toNat_natCast,List.length_set]
  refine⟨fun c1=> ?_,fun c1=>⟨(i+1,u),by rw [w64_succ (by omega)],Imp.refl _,⟨by simp only;omega,k2⟩,by simp only;omega⟩⟩
  have e1:w64 (w64 (64*(i:Int))+k)=64*i+k:=by rw [w64_id (n:=64*(i:Int)) (by omega),w64_id (by omega)]
  rw [e1,w64_id (n:=k-1) (by omega)]
  refine⟨⟨by omega,by omega⟩,by omega,⟨by omega,by omega⟩,by omega,⟨by omega,by omega⟩,fun x hx=>⟨fun _=>⟨⟨by omega,by omega⟩,by omega,⟨by omega,by omega⟩,by omega,(k-1,_),rfl,Imp.refl _,⟨⟨by simp only;omega,by simp only;omega⟩,by simp only [List.length_set];omega⟩,by simp only;omega⟩,fun _=>⟨(k-1,_),rfl,Imp.refl _,⟨⟨by simp only;omega,by simp only;omega⟩,by simp only [List.length_set];omega⟩,by simp only;omega⟩⟩⟩
 ·obtain⟨v0,v1,v2,v3,rfl⟩:∃v0 v1 v2 v3,w=[v0,v1,v2,v3]:=by
   match w,i2 with
   | [v0,v1,v2,v3],_=>exact⟨_,_,_,_,rfl⟩
  simp only [List.map_cons,List.map_nil]
  refine go ?_
  exact fin (h _ _ _ _)))⟩
instance c374:Go1 (fn 374 [.agg ⟨w4 w0 w1 w2 w3⟩] K cs) (∀v0 v1 v2 v3,K (.agg ⟨w4 v0 v1 v2 v3⟩) cs):=⟨fun h=>up0 (f374 (by
 unfold s374
 refine go fun b1 b2 a c ch l r=> ?_
 refine lp (fun y:Nat×Chunk×List Bool=>[.int .i64 y.1]) (fun y=>y.2.1::bk b2 412 (w4 0 0 0 0)::bk b1 412 (w4 w0 w1 w2 w3)::cs) (fun y=>y.1≤256∧Row 4 1 a 256 c encBo y.2.2 y.2.1) (fun y=>256-y.1) (0,ch,l) rfl drp ⟨Nat.zero_le _,r⟩ ?_
 rintro⟨i,ch,l⟩ ⟨i1,i2⟩
 dsimp only at *
 refine go ?_
 simp only [decide_eq_true_eq,decide_eq_false_iff_not,Int.toNat_natCast]
 refine⟨fun c0=>⟨⟨by omega,by omega⟩,fun x hx=>⟨⟨by omega,by omega⟩,!x,rfl,fun ch' r'=>⟨(i+1,ch',_),by rw [w64_succ (by omega)],drp,⟨by simp only;omega,r'⟩,by simp only;omega⟩⟩⟩,fun c0=> ?_⟩
 exact fun v0 v1 v2 v3=>fin (h _ _ _ _)))⟩
instance c307 {x y:Int}:Go1 (fn 307 [.int .i64 x,.int .i64 y] K cs) ((0≤x∧y<256)∧∀v0 v1 v2 v3,K (.agg ⟨w4 v0 v1 v2 v3⟩) cs):=⟨fun⟨hb,h⟩=>up0 (f307 (by
 unfold s307
 refine go fun b1 a c ch l r=> ?_
 refine lp (fun z:Int×Chunk×List Bool=>[.int .i64 z.1]) (fun y=>y.2.1::bk b1 412 (w4 0 0 0 0)::cs) (fun z=>0≤z.1∧Row 4 1 a 256 c encBo z.2.2 z.2.1) (fun z=>(y+1-z.1).toNat) (x,ch,l) rfl drp ⟨hb.1,r⟩ ?_
 rintro⟨i,ch,l⟩ ⟨i1,i2⟩
 dsimp only at *
 refine go ?_
 simp only [decide_eq_true_eq,decide_eq_false_iff_not,Int.toNat_natCast]
 refine⟨fun c0=>⟨⟨by omega,by omega⟩,true,rfl,fun ch' r'=>⟨(i+1,ch',_),by rw [w64_id (by omega)],drp,⟨by simp only;omega,r'⟩,by simp only;omega⟩⟩,fun c0=> ?_⟩
 exact fun v0 v1 v2 v3=>fin (h _ _ _ _)))⟩
end
theorem cAt_drop (s:List UInt8) (k j:Nat):cAt (s.drop k) j=cAt s (k+j):=by
 unfold cAt;rw [List.getD_eq_getElem?_getD,List.getElem?_drop,←List.getD_eq_getElem?_getD]
theorem rSign_at {s:List UInt8} {k a j:Nat} (h:rSign s k= .ok (a,j)):k<s.length∧cAt s k≠93∧cAt s k≠45∧((cAt s k=37∧k+1<s.length∧a=cAt s (k+1)∧j=k+2)∨(cAt s k≠37∧a=cAt s k∧j=k+1)):=by
 have hat:∀x:Nat,k<s.length→(isAt s k (x:Int)=true↔cAt s k=x):=fun x hk=>by
  unfold isAt
  simp [hk]
  omega
 unfold rSign at h
 split at h
 ·rename_i c
  have hk:=isAt_lt c
  have c:=(hat 37 hk).1 c
  split at h
  ·cases h
  ·cases h
   exact⟨hk,by omega,by omega,.inl ⟨c,by omega,rfl,rfl⟩⟩
 ·rename_i c
  split at h
  ·cases h
  ·have hk:k<s.length:=by omega
   have c:¬cAt s k=37:=fun e=>c ((hat 37 hk).2 e)
   split at h
   ·cases h
   ·rename_i c2
    have c2:¬cAt s k=93:=fun e=>c2 ((hat 93 hk).2 e)
    split at h
    ·cases h
    ·rename_i c3
     have c3:¬cAt s k=45:=fun e=>c3 ((hat 45 hk).2 e)
     cases h
     exact⟨hk,c2,c3,.inr ⟨c,rfl,rfl⟩⟩
section
variable {cs:St} {K:Value→SP}
theorem c372t {s:ByteArray} {a n:Nat} (h1:0<s.size) (h2:cAt (bl s) 0≠93) (h3:cAt (bl s) 0≠45) (h4:(cAt (bl s) 0=37∧1<s.size∧a=cAt (bl s) 1∧n=2)∨(cAt (bl s) 0≠37∧a=cAt (bl s) 0∧n=1)) (h:K (.tuple ⟨[.int .i64 a,.int .i64 n,.bool true]⟩) cs):fn 372 [.string s] K cs:=up0 (f372 (by
 unfold s372
 have l0:=cAt_lt (bl s) 0
 have l1:=cAt_lt (bl s) 1
 have e0:sat s 0=(cAt (bl s) 0:Nat):=sat_cAt s 0
 have e1:sat s 1=(cAt (bl s) 1:Nat):=sat_cAt s 1
 refine goj ?_
 rw [e0,e1,w64_id (by omega),w64_id (by omega)]
 simp only [empty_iff,decide_eq_true_eq,decide_eq_false_iff_not,beq_iff_eq,beq_eq_false_iff_ne,bne_iff_ne,ne_eq,bne_eq_false_iff_eq]
 refine⟨fun c=>absurd c (by omega),fun _=>⟨⟨by omega,by omega⟩,fun c=>absurd c (by omega),fun _=>⟨⟨by omega,by omega⟩,fun c=>absurd c (by omega),fun _=>⟨⟨by omega,by omega⟩,fun c=>⟨⟨by omega,by omega⟩,?_⟩,fun c=>⟨fun c2=>absurd c2 (by omega),fun _=>⟨⟨by omega,by omega⟩,?_⟩⟩⟩⟩⟩⟩
 ·rcases h4 with ⟨g,_⟩ | ⟨_,g2,g3⟩
  ·exact absurd g (by omega)
  ·rw [g2,g3]at h;exact fin h
 ·rcases h4 with ⟨_,_,g2,g3⟩ | ⟨g,_⟩
  ·rw [g2,g3]at h;exact fin h
  ·exact absurd g (by omega)))
end
end Go.Proofs.YtbjlfobjngogkaaGreatDoor
