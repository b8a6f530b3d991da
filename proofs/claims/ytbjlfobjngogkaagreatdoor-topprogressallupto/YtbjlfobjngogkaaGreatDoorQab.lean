/- Part of a proof over this seat: contracts of functions and plain laws, joined by program out of smaller texts. Conditions: those that each theorem states. -/
import Derived.Test.YtbjlfobjngogkaaGreatDoorQaa
import Derived.Laws.Tables
import Derived.Shelf.Strings.Builder1
import Derived.Lib.AppendStr
namespace Go.Proofs.YtbjlfobjngogkaaGreatDoor
open Go
instance ze23:ZeT 23 (.agg ⟨[.int .i64 0,.int .i64 0,.int .i64 0,.int .i64 0,.int .i64 0,.int .i64 0]⟩):=⟨by kernel_rfl⟩
instance ze29:ZeT 29 (.agg ⟨[.int .i64 0,.int .i64 0,.int .i64 0]⟩):=⟨by kernel_rfl⟩
instance ze39:ZeT 39 (.agg ⟨[.int .i64 0,.int .i64 0,.int .i64 0,.slice none 0 0,.slice none 0 0,.string .empty,.string .empty,.bool false,.int .i64 0]⟩):=⟨by kernel_rfl⟩
instance ze45:ZeT 45 (.agg ⟨[.string .empty,.int .i64 0,.int .i64 0,.slice none 0 0]⟩):=⟨by kernel_rfl⟩
instance ze73:ZeT 73 (.agg ⟨[.int .i64 0,.slice none 0 0,.slice none 0 0,.slice none 0 0,.int .i64 0,.bool false]⟩):=⟨by kernel_rfl⟩
instance ze85:ZeT 85 (.agg ⟨[.int .i64 0,.string .empty,.bool false]⟩):=⟨by kernel_rfl⟩
instance ze87:ZeT 87 (.agg ⟨[.int .i64 0,.bool false,.bool false,.int .i64 0]⟩):=⟨by kernel_rfl⟩
instance ze91:ZeT 91 (.slice none 0 0):=⟨by kernel_rfl⟩
instance ze97:ZeT 97 (.agg ⟨[.int .i64 0,.string .empty,.int .i64 0,.int .i64 0,.slice none 0 0,.int .i64 0,.int .i64 0]⟩):=⟨by kernel_rfl⟩
instance ze99:ZeT 99 (.agg ⟨[.int .i64 0,.int .i64 0,.int .i64 0,.int .i64 0,.int .i64 0,.int .i64 0]⟩):=⟨by kernel_rfl⟩
instance ze101:ZeT 101 (.agg ⟨[.int .i64 0,.int .i64 0,.int .i64 0,.int .i64 0,.string .empty,.int .i64 0,.int .i64 0,.int .i64 0,.int .i64 0,.int .i64 0,.int .i64 0,.int .i64 0]⟩):=⟨by kernel_rfl⟩
instance ze112:ZeT 112 (.agg ⟨[.pointer none,.slice none 0 0]⟩):=⟨by kernel_rfl⟩
instance ze146:ZeT 146 (.agg ⟨[.string .empty,.int .i64 0]⟩):=⟨by kernel_rfl⟩
instance ze226:ZeT 226 (.agg ⟨[.int .i64 0,.string .empty,.int .i64 0,.int .i64 0,.int .i64 0,.int .i64 0,.int .i64 0,.int .i64 0,.bool false]⟩):=⟨by kernel_rfl⟩
instance ze228:ZeT 228 (.agg ⟨[.int .i64 0,.string .empty,.int .i64 0,.int .i64 0]⟩):=⟨by kernel_rfl⟩
instance ze272:ZeT 272 (.agg ⟨[.int .i64 0,.slice none 0 0]⟩):=⟨by kernel_rfl⟩
instance ze274:ZeT 274 (.agg ⟨[.int .i64 0,.int .i64 0]⟩):=⟨by kernel_rfl⟩
instance ze276:ZeT 276 (.agg ⟨[.string .empty,.int .i64 0,.int .i64 0,.slice none 0 0,.int .i64 0,.int .i64 0,.int .i64 0,.int .i64 0]⟩):=⟨by kernel_rfl⟩
instance ze412:ZeT 412 (.agg ⟨[.int .u64 0,.int .u64 0,.int .u64 0,.int .u64 0]⟩):=⟨by kernel_rfl⟩
instance ze416:ZeT 416 (.agg ⟨[.bool false,.int .u64 0,.int .u64 0,.int .u64 0,.int .u64 0]⟩):=⟨by kernel_rfl⟩
instance ze472:ZeT 472 (.agg ⟨[.string .empty,.bool false,.int .i64 0]⟩):=⟨by kernel_rfl⟩
instance ze477:ZeT 477 (.agg ⟨[.string .empty,.int .i64 0,.int .i64 0,.int .i64 0,.int .i64 0]⟩):=⟨by kernel_rfl⟩
instance ze513:ZeT 513 (.agg ⟨[.pointer none,.int .u64 0]⟩):=⟨by kernel_rfl⟩
instance ze514:ZeT 514 (.agg ⟨[.bool false,.bool false,.int .i64 0,.int .i64 0,.int .i64 0]⟩):=⟨by kernel_rfl⟩
end Go.Proofs.YtbjlfobjngogkaaGreatDoor
namespace Go.Proofs.YtbjlfobjngogkaaGreatDoor
open Go
set_option synthInstance.maxSize 100000
set_option maxRecDepth 100000
theorem wrap_u64 (n:Int):IntKind.wrap .u64 n=n % 18446744073709551616:=by
 simp [IntKind.wrap,IntKind.bits,IntKind.signed]
theorem wrap_u8 (n:Int):IntKind.wrap .u8 n=n % 256:=by
 simp [IntKind.wrap,IntKind.bits,IntKind.signed]
theorem bv_nat (x:Nat):BitVec.ofInt 64 (x:Int)=BitVec.ofNat 64 x:=BitVec.ofInt_natCast 64 x
theorem wrap_nat {x:Nat} (h:x<18446744073709551616):IntKind.wrap .u64 (x:Int)=x:=by rw [wrap_u64];omega
theorem uor {x y:Nat} (hx:x<18446744073709551616) (hy:y<18446744073709551616):IntKind.wrap .u64 ((BitVec.ofInt 64 (x:Int)|||BitVec.ofInt 64 (y:Int)).toNat:Int)=((x|||y:Nat):Int):=by
 rw [bv_nat,bv_nat,BitVec.toNat_or,BitVec.toNat_ofNat,BitVec.toNat_ofNat,Nat.mod_eq_of_lt hx,Nat.mod_eq_of_lt hy]
 exact wrap_nat (Nat.or_lt_two_pow (n:=64) hx hy)
theorem uand {x y:Nat} (hx:x<18446744073709551616) (hy:y<18446744073709551616):IntKind.wrap .u64 ((BitVec.ofInt 64 (x:Int)&&&BitVec.ofInt 64 (y:Int)).toNat:Int)=((x&&&y:Nat):Int):=by
 rw [bv_nat,bv_nat,BitVec.toNat_and,BitVec.toNat_ofNat,BitVec.toNat_ofNat,Nat.mod_eq_of_lt hx,Nat.mod_eq_of_lt hy]
 exact wrap_nat (Nat.lt_of_le_of_lt Nat.and_le_left hx)
theorem uxor {x y:Nat} (hx:x<18446744073709551616) (hy:y<18446744073709551616):IntKind.wrap .u64 ((BitVec.ofInt 64 (x:Int) ^^^ BitVec.ofInt 64 (y:Int)).toNat:Int)=((x ^^^ y:Nat):Int):=by
 rw [bv_nat,bv_nat,BitVec.toNat_xor,BitVec.toNat_ofNat,BitVec.toNat_ofNat,Nat.mod_eq_of_lt hx,Nat.mod_eq_of_lt hy]
 exact wrap_nat (Nat.xor_lt_two_pow (n:=64) hx hy)
section
variable {cs:St} {t:Nat} {x y:Operand} {K:Value→SP}
instance ushl {a i:Int} {k:IntKind}:Go1 (qy (bsem .shl t x y (.int .u64 a) (.int k i)) K cs) (0≤i∧K (.int .u64 (IntKind.wrap .u64 (a*2 ^ (min i.toNat 64)))) cs):=⟨fun h=>by
 obtain⟨h1,h⟩:=h
 refine⟨_,fun E w _=> ?_,h⟩
 have:¬i<0:=by omega
 simp [bsem,eqGuard,binOp,Op.shift,this,IntKind.bits]⟩
instance ushr {a i:Int} {k:IntKind}:Go1 (qy (bsem .shr t x y (.int .u64 a) (.int k i)) K cs) (0≤i∧K (.int .u64 (a.fdiv (2 ^ (min i.toNat 64)))) cs):=⟨fun h=>by
 obtain⟨h1,h⟩:=h
 refine⟨_,fun E w _=> ?_,h⟩
 have:¬i<0:=by omega
 simp [bsem,eqGuard,binOp,Op.shift,this,IntKind.bits]⟩
end
noncomputable def arT (t n:Nat):Bool:=match Tryz.prog.underlying t with
 | some (.array m e)=>Nat.beq m n&&sizeT e 1
 | _=>false
class ArT (t:Nat) (n:outParam Nat):Prop where
 h:arT t n=true
instance ar412:ArT 412 4:=⟨by kernel_rfl⟩
instance ar532:ArT 532 256:=⟨by kernel_rfl⟩
theorem arT_spec {t n:Nat} (p:ArT t n):∃e,Tryz.prog.underlying t=some (.array n e)∧sizeT e 1=true:=by
 have h:=p.h
 unfold arT at h
 cases hu:Tryz.prog.underlying t with
 | none=>rw [hu]at h;cases h
 | some d=>
  rw [hu]at h
  cases d with
  | array m e=>simp only [Bool.and_eq_true]at h;exact⟨e,by rw [Nat.eq_of_beq_eq_true h.1],h.2⟩
  | _=>cases h
section
variable {cs:St} {t n b o:Nat} {a:Addr}
theorem arIx [p:ArT t n] {k:IntKind} {i:Int} (h0:0≤i) (h1:i<n) (E w:World):(Instr.indexAt t (.pointer (some (ad b o))) (.int k i)).run Tryz.prog w= .ok (.pointer (some (ad b (o+i.toNat)))) w:=by
 obtain⟨e,hu,hs⟩:=arT_spec p
 simp [Instr.indexAt,Instr.sureAddr,asIntOf,run_under hu,h0,h1,run_size hs,add_ad]
instance arIxq [p:ArT t n] [m:Na a b o] {k:IntKind} {i:Int} {K:Value→SP}:Go1 (qy (Instr.indexAt t (.pointer (some a)) (.int k i)) K cs) ((0≤i∧i<n)∧K (.pointer (some (ad b (o+i.toNat)))) cs):=
 ⟨fun h=>⟨_,fun E w _=>by rw [m.h];exact arIx h.1.1 h.1.2 E w,h.2⟩⟩
instance arIxi [p:ArT t n] [m:Na a b o] {i:Int} {K:Addr→SP}:Go1 (ix t (.pointer (some a)) i K cs) ((0≤i∧i<n)∧K (ad b (o+i.toNat)) cs):=
 ⟨fun h=>⟨.pointer (some (ad b (o+i.toNat))),fun E w _=>by rw [m.h];exact arIx h.1.1 h.1.2 E w,⟨_,rfl,h.2⟩⟩⟩
end
instance (priority:=10) appNil {l:List Value}:App l [] l:=⟨by simp⟩
class BdZ (t:Nat) (z:outParam (List Value)):Prop where
 h:Tryz.prog.built t []=some ⟨z⟩
instance bdZ {cs:St} {t:Nat} {z:List Value} {K:Value→SP} [p:BdZ t z]:Go1 (qy (Instr.build t ⟨[]⟩) K cs) (K (.agg ⟨z⟩) cs):=⟨fun h=>⟨_,fun E w _=>run_build w t ⟨[]⟩ _ p.h,h⟩⟩
noncomputable def bdT (t:Nat):Option (List (Nat×Nat)×List Value):=match Tryz.prog.info? t,Tryz.prog.underlying t with
 | some it,some (.struct fields)=>match it.zero,fields.toList.mapM (fun f=>(Tryz.prog.info? f.type).map fun i=>(f.offset,i.size))with
  | some z,some places=>some (places,z.cells.toList)
  | _,_=>none
 | _,_=>none
class BdT (t:Nat) (pl:outParam (List (Nat×Nat))) (z:outParam (List Value)):Prop where
 h:bdT t=some (pl,z)
theorem bdT_built {t:Nat} {pl:List (Nat×Nat)} {z:List Value} (p:BdT t pl z) (parts:List (Nat×Value)):Tryz.prog.built t parts=Instr.fill (pl.toArray[·]?) ⟨z⟩ parts:=by
 have h:=p.h
 unfold bdT at h
 unfold Program.built
 cases hi:Tryz.prog.info? t with
 | none=>rw [hi]at h;cases h
 | some it=>
  cases hu:Tryz.prog.underlying t with
  | none=>rw [hi,hu]at h;cases h
  | some d=>
   rw [hi,hu]at h
   cases d with
   | struct fields=>
    simp only at h ⊢
    cases hz:it.zero with
    | none=>rw [hz]at h;cases h
    | some zv=>
     rw [hz]at h
     cases hm:fields.toList.mapM (fun f=>(Tryz.prog.info? f.type).map fun i=>(f.offset,i.size))with
     | none=>rw [hm]at h;cases h
     | some places=>
      rw [hm]at h
      cases h
      rfl
   | _=>cases h
class Nth {α:Type} (l:List α) (i:Nat) (x:outParam α):Prop where
 h:l[i]? =some x
instance {α:Type} {x:α} {l:List α}:Nth (x::l) 0 x:=⟨rfl⟩
instance {α:Type} {x y:α} {l:List α} {n:Nat} [i:Nth l n x]:Nth (y::l) (n+1) x:=⟨i.h⟩
class Fil (pl:List (Nat×Nat)) (c:List Value) (ps:List (Nat×Value)) (out:outParam (List Value)):Prop where
 h:Instr.fill (pl.toArray[·]?) ⟨c⟩ ps=some ⟨out⟩
instance {pl:List (Nat×Nat)} {c:List Value}:Fil pl c [] c:=⟨rfl⟩
instance {pl:List (Nat×Nat)} {c l c' out:List Value} {i o n:Nat} {v:Value} {ps:List (Nat×Value)} [g:Nth pl i (o,n)] [e:Cel v l] [f:Len l n] [j:Lay c o l c'] [k:Fil pl c' ps out]:Fil pl c ((i,v)::ps) out:=⟨by
 have h1:v.cells.size=n:=by rw [←Array.length_toList,e.h,f.h]
 have h2:=j.h.2
 rw [f.h]at h2
 have h3:(pl.toArray)[i]? =some (o,n):=by rw [List.getElem?_toArray];exact g.h
 have h4:v.cells.zipIdx.foldl (fun cs (c,j)=>cs.setIfInBounds (o+j) c) (⟨c⟩:Array Value)=⟨c'⟩:=by
  have h5:=fold_lay l o 0 ⟨c⟩
  rw [Nat.add_zero,j.h.1]at h5
  rw [←h5,←Array.foldl_toList,Array.toList_zipIdx,e.h]
 have h6:¬(o+n>c.length):=by omega
 simp only [Instr.fill,h3,h1,ne_eq,not_true,false_or,List.size_toArray,h6,if_false]
 rw [h4]
 exact k.h⟩
instance bdS {cs:St} {t:Nat} {pl:List (Nat×Nat)} {z out:List Value} {ps:List (Nat×Value)} {K:Value→SP} [p:BdT t pl z] [f:Fil pl z ps out]:Go1 (qy (Instr.build t ⟨ps⟩) K cs) (K (.agg ⟨out⟩) cs):=
 ⟨fun h=>⟨_,fun E w _=>run_build w t ⟨ps⟩ _ (by rw [bdT_built p];exact f.h),h⟩⟩
end Go.Proofs.YtbjlfobjngogkaaGreatDoor
namespace Go.Proofs.YtbjlfobjngogkaaGreatDoor
abbrev never:Int:=9223372036854775807
def own (t:Int):Int:=max t 0
def tadd (t d:Int):Int:=if own t≥never-own d then never else own t+own d
def tdue (a n:Int):Bool:=a != never&&decide (own a≤own n)
structure Setup where
 live:Int
 ring:Int
 win:Int
 out:Int
 quantum:Int
 visits:Int
 deriving DecidableEq
def inn (n most:Int):Bool:=decide (1≤n)&&decide (n≤most)
def good (s:Setup):Bool:=inn s.ring 4096&&inn s.win 4096&&inn s.out 4096&&inn s.live 1024&&inn s.quantum 1000000&&inn s.visits 64
def some' (n most:Int):Int:=min (max n 0) most
def price (s:Setup) (kind fresh waits:Int):Int:=
 if good s=false then 0 else if kind=2 then 1+min (some' fresh s.win+some' waits s.win) s.win else if kind=1 then 1+some' waits s.out else 1
structure Due where
 til:Int
 lim:Int
 cut:Int
 deriving DecidableEq
def behind (now n:Int):Int:=if n=never then never else tadd now n
def Due.begin (now last:Int):Due:=⟨never,behind now last,never⟩
def Due.wait (d:Due) (now n:Int):Due:={d with til:=behind now n}
def Due.rest (d:Due):Due:={d with til:=never}
def tleast (l:List Int):Int:=l.foldl (fun m t=>min m (own t)) never
def Due.cuts (d:Due) (at_:Int):Due:={d with cut:=tleast [d.cut,at_]}
def Due.first (d:Due):Int:=tleast [d.til,d.lim,d.cut]
def Due.over (d:Due) (now:Int):Int×Bool:=
 if own d.lim≤own d.cut∧tdue (own d.lim) now=true then(3,true)else if own d.cut<own d.lim∧tdue (own d.cut) now=true then(5,true)else(0,false)
def Due.woken (d:Due) (now:Int):Bool:=tdue d.til now
structure Wtr where
 out:Int
 text:ByteArray
 sent:Int
 laid:Int
structure Wtr.Ok (p:Wtr):Prop where
 h0:0≤p.sent
 h1:p.sent≤p.laid
 h2:p.laid≤p.text.size
 h3:p.text.size≤1000000000000
 h4:1≤p.out
 h5:p.out≤4096
def Wtr.new (out:Int):Wtr:=⟨min (max out 1) 4096,.empty,0,0⟩
def Wtr.begin (p:Wtr) (t:ByteArray):Wtr:=⟨p.out,t,0,0⟩
def Wtr.left (p:Wtr):Int:=p.laid-p.sent
def Wtr.rest (p:Wtr):Int:=p.text.size-p.laid
def Wtr.loads (p:Wtr):Int:=if p.laid>p.sent then 0 else min (p.text.size-p.laid) p.out
def Wtr.load (p:Wtr):Wtr:={p with laid:=p.laid+p.loads}
def Wtr.upto (p:Wtr) (n:Int):Int:=p.sent+min (max n 0) (p.laid-p.sent)
def Wtr.take (p:Wtr) (n:Int):Wtr:={p with sent:=p.upto n}
def Wtr.taken (p:Wtr) (n:Int):ByteArray:=if p.laid=p.sent then .empty else p.text.extract p.sent.toNat (p.upto n).toNat
def Wtr.peek (p:Wtr):ByteArray:=p.text.extract p.sent.toNat p.laid.toNat
structure Turns where
 most:Nat
 q:List Nat
 has:List Int
 quantum:Int
 who:Int
def Turns.new (most quantum:Int):Turns:=⟨(min (max most 1) 1024).toNat,[],List.replicate (min (max most 1) 1024).toNat 0,min (max quantum 1) 1000000,-1⟩
def qpush (q:List Nat) (i:Nat):List Nat:=if i∈q then q else q++[i]
def Turns.wake (t:Turns) (i:Nat):Turns:=if t.who=i then t else{t with q:=qpush t.q i}
def Turns.begin (t:Turns):Turns×Option Nat:=
 if t.who≠-1 then(t,none)else match t.q with
 | []=>(t,none)
 | i::r=>({t with q:=r,who:=i,has:=t.has.set i (min (t.has.getD i 0+t.quantum) 2000000000)},some i)
def Turns.pay (t:Turns) (price:Int):Turns×Bool:=
 if t.who= -1 then(t,false)else if t.has.getD t.who.toNat 0<max price 0 then(t,false)else({t with has:=t.has.set t.who.toNat (t.has.getD t.who.toNat 0-max price 0)},true)
def Turns.fin (t:Turns) (again:Bool):Turns:=
 if t.who= -1 then t else if again then{t with who:=-1,q:=qpush t.q t.who.toNat} else{t with who:=-1,has:=t.has.set t.who.toNat 0}
def Turns.leave (t:Turns) (i:Nat):Turns:=
 if t.who=i then t.fin false else if i∈t.q then{t with q:=t.q.erase i,has:=t.has.set i 0} else t
def lexle (x y:Int×Int):Prop:=x.1<y.1∨(x.1=y.1∧x.2≤y.2)
instance (x y:Int×Int):Decidable (lexle x y):=by unfold lexle;infer_instance
def tmMin:List Int→Nat→Option (Int×Nat)
 | [],_=>none
 | t::r,k=>match tmMin r (k+1)with
  | none=>if t=never then none else some (t,k)
  | some (t',k')=>if t≤t' then some (t,k)else some (t',k')
def tmDue:Nat→List Int→Int→List (Int×Nat)×List Int
 | 0,tm,_=>([],tm)
 | f+1,tm,now=>match tmMin tm 0 with
  | none=>([],tm)
  | some (t,k)=>if tdue t now then((t,k)::(tmDue f (tm.set k never) now).1,(tmDue f (tm.set k never) now).2)else([],tm)
def tmSet (tm:List Int) (k:Nat) (t:Int):List Int:=tm.set k (if t=never then never else own t)
structure Slots where
 who:List Int
 next:Int
def Slots.new (most:Int):Slots:=⟨List.replicate (min (max most 1) 1024).toNat (-1),0⟩
def Slots.first (s:Slots):Nat:=s.who.idxOf (-1)
def Slots.open (s:Slots):Slots:=⟨s.who.set s.first s.next,s.next+1⟩
def Slots.skip (s:Slots):Slots:=if s.next≥4096 then s else{s with next:=s.next+1}
def Slots.skipped (s:Slots):Int:=if s.next≥4096 then -1 else s.next
def Slots.slot (s:Slots) (id:Int):Option Nat:=if 0≤id∧id∈s.who then some (s.who.idxOf id)else none
def Slots.close (s:Slots) (id:Int):Slots:=match s.slot id with
 | some k=>{s with who:=s.who.set k (-1)}
 | none=>s
def Slots.free (s:Slots):Nat:=s.who.count (-1)
def insertI (x:Int):List Int→List Int
 | []=>[x]
 | y::l=>if x≤y then x::y::l else y::insertI x l
def sortI:List Int→List Int
 | []=>[]
 | x::l=>insertI x (sortI l)
def Slots.live (s:Slots):List Int:=sortI (s.who.filter fun x=>x != -1)
def wN (s i:Nat):Nat:=(s >>> (64*i)) % 2 ^ 64
def wI (s:Nat):List Int:=[(wN s 0:Nat),(wN s 1:Nat),(wN s 2:Nat),(wN s 3:Nat)]
theorem wN_lt (s i:Nat):wN s i<18446744073709551616:=Nat.mod_lt _ (by decide)
theorem wN_bit (s i j:Nat):(wN s i).testBit j=(decide (j<64)&&s.testBit (64*i+j)):=by
 unfold wN
 rw [Nat.testBit_mod_two_pow,Nat.testBit_shiftRight]
theorem wN_ext {x s i:Nat} (hx:x<2 ^ 64) (h:∀j,j<64→x.testBit j=s.testBit (64*i+j)):x=wN s i:=by
 apply Nat.eq_of_testBit_eq
 intro j
 rw [wN_bit]
 by_cases hj:j<64
 ·simp [hj,h j hj]
 ·rw [Nat.testBit_lt_two_pow (Nat.lt_of_lt_of_le hx (Nat.pow_le_pow_right (by decide) (by omega)))]
  simp [hj]
theorem wI_get (s:Nat) {i:Nat} (h:i<4):(wI s).getD i 0=(wN s i:Nat):=by
 match i,h with
 | 0,_=>rfl
 | 1,_=>rfl
 | 2,_=>rfl
 | 3,_=>rfl
theorem wI_len (s:Nat):(wI s).length=4:=rfl
def sWith (s b:Nat):Nat:=s|||2 ^ b
theorem wN_with_same (s b:Nat):wN (sWith s b) (b / 64)=wN s (b / 64)|||2 ^ (b % 64):=by
 symm
 apply wN_ext (Nat.or_lt_two_pow (wN_lt _ _) (Nat.pow_lt_pow_right (by decide) (Nat.mod_lt _ (by decide))))
 intro j hj
 rw [Nat.testBit_or,wN_bit,sWith,Nat.testBit_or,Nat.testBit_two_pow,Nat.testBit_two_pow]
 simp only [hj,decide_true,Bool.true_and]
 congr 1
 simp only [decide_eq_decide]
 omega
theorem wN_with_other (s b:Nat) {i:Nat} (h:i≠b / 64):wN (sWith s b) i=wN s i:=by
 symm
 apply wN_ext (wN_lt _ _)
 intro j hj
 rw [wN_bit,sWith,Nat.testBit_or,Nat.testBit_two_pow]
 have:¬b=64*i+j:=by omega
 simp [hj,this]
theorem wI_with (s b:Nat) (h:b<256):(wI s).set (b / 64) ((wN s (b / 64)|||2 ^ (b % 64):Nat):Int)=wI (sWith s b):=by
 rw [←wN_with_same]
 have h4:b / 64<4:=by omega
 unfold wI
 match hi:b / 64,h4 with
 | 0,_=>rw [wN_with_other s b (i:=1) (by omega),wN_with_other s b (i:=2) (by omega),wN_with_other s b (i:=3) (by omega)];rfl
 | 1,_=>rw [wN_with_other s b (i:=0) (by omega),wN_with_other s b (i:=2) (by omega),wN_with_other s b (i:=3) (by omega)];rfl
 | 2,_=>rw [wN_with_other s b (i:=0) (by omega),wN_with_other s b (i:=1) (by omega),wN_with_other s b (i:=3) (by omega)];rfl
 | 3,_=>rw [wN_with_other s b (i:=0) (by omega),wN_with_other s b (i:=1) (by omega),wN_with_other s b (i:=2) (by omega)];rfl
def sOr (s t:Nat):Nat:=s|||t
theorem wN_or (s t i:Nat):wN (sOr s t) i=wN s i|||wN t i:=by
 symm
 apply wN_ext (Nat.or_lt_two_pow (wN_lt _ _) (wN_lt _ _))
 intro j hj
 rw [Nat.testBit_or,wN_bit,wN_bit,sOr,Nat.testBit_or]
 simp [hj]
def sNot (s:Nat):Nat:=(2 ^ 256-1) ^^^ s
theorem wN_not (s:Nat) {i:Nat} (h:i<4):wN (sNot s) i=18446744073709551615 ^^^ wN s i:=by
 symm
 apply wN_ext (Nat.xor_lt_two_pow (by decide) (wN_lt _ _))
 intro j hj
 have e:(18446744073709551615:Nat)=2 ^ 64-1:=by decide
 rw [e,Nat.testBit_xor,wN_bit,sNot,Nat.testBit_xor,Nat.testBit_two_pow_sub_one,Nat.testBit_two_pow_sub_one]
 have:64*i+j<256:=by omega
 simp [hj,this]
def sHas (s b:Nat):Bool:=s.testBit b
theorem sHas_word (s b:Nat):((wN s (b / 64) / 2 ^ (b % 64)) % 2 == 1)=sHas s b:=by
 have h:=wN_bit s (b / 64) (b % 64)
 have e:64*(b / 64)+b % 64=b:=by omega
 rw [e,Nat.testBit_eq_decide_div_mod_eq]at h
 have h2:b % 64<64:=Nat.mod_lt _ (by decide)
 simp only [h2,decide_true,Bool.true_and]at h
 rw [sHas,←h]
 by_cases hc:wN s (b / 64) / 2 ^ (b % 64) % 2=1 <;>simp [hc]
def sFrom (s from_:Nat):Nat→Nat
 | 0=>s
 | n+1=>sFrom (sWith s from_) (from_+1) n
def sSpan (a b:Nat):Nat:=sFrom 0 a (b+1-a)
theorem sWith_bit (s b j:Nat):(sWith s b).testBit j=(s.testBit j||decide (b=j)):=by
 rw [sWith,Nat.testBit_or,Nat.testBit_two_pow]
theorem sFrom_bit:∀(n s a j:Nat),(sFrom s a n).testBit j=(s.testBit j||(decide (a≤j)&&decide (j<a+n)))
 | 0,s,a,j=>by
  have:¬(a≤j∧j<a):=by omega
  simp only [sFrom,Nat.add_zero]
  rw [←Bool.decide_and,decide_eq_false this,Bool.or_false]
 | n+1,s,a,j=>by
  rw [sFrom,sFrom_bit n,sWith_bit,Bool.eq_iff_iff]
  simp only [Bool.or_eq_true,Bool.and_eq_true,decide_eq_true_eq]
  by_cases hs:s.testBit j=true
  ·simp [hs]
  ·simp only [hs,Bool.false_eq_true,false_or]
   omega
theorem sFrom_succ (s a n:Nat):sFrom s a (n+1)=sWith (sFrom s a n) (a+n):=by
 apply Nat.eq_of_testBit_eq
 intro j
 rw [sFrom_bit,sWith_bit,sFrom_bit,Bool.eq_iff_iff]
 simp only [Bool.or_eq_true,Bool.and_eq_true,decide_eq_true_eq]
 by_cases hs:s.testBit j=true
 ·simp [hs]
 ·simp only [hs,Bool.false_eq_true,false_or]
  omega
theorem sWith_lt {s b:Nat} (hs:s<2 ^ 256) (hb:b<256):sWith s b<2 ^ 256:=Nat.or_lt_two_pow hs (Nat.pow_lt_pow_right (by decide) hb)
theorem sOr_lt {s t:Nat} (hs:s<2 ^ 256) (ht:t<2 ^ 256):sOr s t<2 ^ 256:=Nat.or_lt_two_pow hs ht
theorem sNot_lt {s:Nat} (hs:s<2 ^ 256):sNot s<2 ^ 256:=Nat.xor_lt_two_pow (by decide) hs
theorem sFrom_lt:∀(n:Nat) {s a:Nat},s<2 ^ 256→a+n≤256→sFrom s a n<2 ^ 256
 | 0,_,_,hs,_=>hs
 | n+1,s,a,hs,h=>by rw [sFrom];exact sFrom_lt n (sWith_lt hs (by omega)) (by omega)
theorem sSpan_lt {a b:Nat} (hb:b<256):sSpan a b<2 ^ 256:=by
 unfold sSpan
 by_cases h:a≤256
 ·exact sFrom_lt _ (by decide) (by omega)
 ·have:b+1-a=0:=by omega
  rw [this];show(0:Nat)<2 ^ 256;decide
def cAt (s:List UInt8) (k:Nat):Nat:=(s.getD k 0).toNat
theorem cAt_lt (s:List UInt8) (k:Nat):cAt s k<256:=UInt8.toNat_lt _
def isAt (s:List UInt8) (k:Nat) (x:Int):Bool:=decide (k<s.length)&&((cAt s k:Int) == x)
abbrev Res (α:Type):=Except (Nat×Int) (α×Nat)
def rSign (s:List UInt8) (k:Nat):Res Nat:=
 if isAt s k 37 then(if k+1≥s.length then .error (s.length,3)else .ok (cAt s (k+1),k+2))
 else if k≥s.length then .error (s.length,3)
 else if isAt s k 93 then .error (k,2)
 else if isAt s k 45 then .error (k,2)
 else .ok (cAt s k,k+1)
def rPart (s:List UInt8) (k:Nat):Res Nat:=match rSign s k with
 | .error e=> .error e
 | .ok (a,j)=>if isAt s j 45 then(match rSign s (j+1)with
   | .error e=> .error e
   | .ok (b,i)=>if b<a then .error (i-1,12)else .ok (sSpan a b,i))
  else .ok (sSpan a a,j)
def rRest (s:List UInt8):Nat→Nat→Nat→Res Nat
 | 0,_,k=> .error (k,3)
 | f+1,x,k=>if isAt s k 93 then .ok (x,k)else match rPart s k with
  | .error e=> .error e
  | .ok (y,j)=>rRest s f (sOr x y) j
def rWhole (s:List UInt8):Res Nat:=
 if isAt s 0 91 then(match rPart s (if isAt s 1 94 then 2 else 1)with
  | .error e=> .error e
  | .ok (x,j)=>match rRest s (s.length+1) x j with
   | .error e=> .error e
   | .ok (y,i)=> .ok (if isAt s 1 94 then sNot y else y,i+1))
 else if s.length=0 then .error (0,3)else .error (0,2)
theorem isAt_lt {s:List UInt8} {k:Nat} {x:Int} (h:isAt s k x=true):k<s.length:=by
 unfold isAt at h;simp only [Bool.and_eq_true,decide_eq_true_eq]at h;exact h.1
theorem rSign_ok {s:List UInt8} {k a j:Nat} (h:rSign s k= .ok (a,j)):k<j∧j≤s.length∧a<256:=by
 unfold rSign at h
 split at h
 ·split at h
  ·cases h
  ·cases h;exact⟨by omega,by omega,cAt_lt _ _⟩
 ·split at h
  ·cases h
  ·split at h
   ·cases h
   ·split at h
    ·cases h
    ·cases h;exact⟨by omega,by omega,cAt_lt _ _⟩
theorem rSign_err {s:List UInt8} {k p:Nat} {e:Int} (h:rSign s k= .error (p,e)):p≤s.length∧e≠0∧(k≤s.length→k≤p):=by
 unfold rSign at h
 split at h
 ·split at h
  ·cases h;exact⟨by omega,by decide,by omega⟩
  ·cases h
 ·split at h
  ·cases h;exact⟨by omega,by decide,by omega⟩
  ·split at h
   ·cases h;exact⟨by omega,by decide,by omega⟩
   ·split at h
    ·cases h;exact⟨by omega,by decide,by omega⟩
    ·cases h
theorem rPart_ok {s:List UInt8} {k x j:Nat} (h:rPart s k= .ok (x,j)):k<j∧j≤s.length∧x<2 ^ 256:=by
 unfold rPart at h
 split at h
 ·cases h
 ·rename_i a i h1
  obtain⟨g1,g2,g3⟩:=rSign_ok h1
  split at h
  ·split at h
   ·cases h
   ·rename_i b i2 h2
    obtain⟨g4,g5,g6⟩:=rSign_ok h2
    split at h
    ·cases h
    ·cases h;exact⟨by omega,by omega,sSpan_lt (by omega)⟩
  ·cases h;exact⟨by omega,by omega,sSpan_lt (by omega)⟩
theorem rPart_err {s:List UInt8} {k p:Nat} {e:Int} (h:rPart s k= .error (p,e)):p≤s.length∧e≠0:=by
 unfold rPart at h
 split at h
 ·rename_i e1 h1;cases h;have:=rSign_err h1;exact⟨this.1,this.2.1⟩
 ·rename_i a i h1
  split at h
  ·split at h
   ·rename_i e1 h2;cases h;have:=rSign_err h2;exact⟨this.1,this.2.1⟩
   ·rename_i b i2 h2
    obtain⟨g4,g5,g6⟩:=rSign_ok h2
    split at h
    ·cases h;exact⟨by omega,by decide⟩
    ·cases h
  ·cases h
abbrev Item:=Bool×Nat
def gItem (s:List UInt8):Res Item:=
 if cAt s 0=42 then .ok ((true,0),1)
 else if cAt s 0=63 then .ok ((false,sSpan 0 255),1)
 else if cAt s 0=91 then(match rWhole s with
  | .error e=> .error e
  | .ok (x,j)=> .ok ((false,x),j))
 else if cAt s 0=93 then .error (0,2)
 else if cAt s 0=37 then(if s.length=1 then .error (1,3)else .ok ((false,sSpan (cAt s 1) (cAt s 1)),2))
 else .ok ((false,sSpan (cAt s 0) (cAt s 0)),1)
def gGo (s:List UInt8):Nat→List Item→Nat→Except (Nat×Int) (List Item)
 | 0,out,_=> .ok out
 | f+1,out,k=>if k<s.length then(if out.length=60 then .error (k,4)else match gItem (s.drop k)with
   | .error (n,e)=> .error (k+n,e)
   | .ok (x,n)=>gGo s f (out++[x]) (k+n))
  else .ok out
def gParse (s:List UInt8):Except (Nat×Int) (List Item):=gGo s (s.length+1) [] 0
def bitsTo (p:Item→Bool) (l:List Item):Nat→Nat
 | 0=>0
 | k+1=>if p (l.getD k (false,0))then bitsTo p l k|||2 ^ k else bitsTo p l k
theorem bitsTo_lt (p:Item→Bool) (l:List Item):∀k,bitsTo p l k<2 ^ k
 | 0=>by rw [bitsTo];decide
 | k+1=>by
  have h:=bitsTo_lt p l k
  have h2:2 ^ k<2 ^ (k+1):=Nat.pow_lt_pow_right (by decide) (by omega)
  rw [bitsTo]
  split
  ·exact Nat.or_lt_two_pow (by omega) h2
  ·omega
theorem bitsTo_bit (p:Item→Bool) (l:List Item) (j:Nat):∀k,(bitsTo p l k).testBit j=(decide (j<k)&&p (l.getD j (false,0)))
 | 0=>by simp [bitsTo]
 | k+1=>by
  rw [bitsTo]
  have ih:=bitsTo_bit p l j k
  by_cases hj:j=k
  ·subst hj
   have e1:decide (j<j)=false:=by simp
   have e2:decide (j<j+1)=true:=by simp
   rw [e1,Bool.false_and]at ih
   rw [e2,Bool.true_and]
   cases hq:p (l.getD j (false,0))with
   | true=>rw [if_pos rfl,Nat.testBit_or,ih,Nat.testBit_two_pow];simp
   | false=>rw [if_neg (by decide)];exact ih
  ·have e:decide (j<k+1)=decide (j<k):=by simp only [decide_eq_decide];omega
   split
   ·have:¬k=j:=fun h=>hj h.symm
    rw [Nat.testBit_or,ih,Nat.testBit_two_pow,e];simp [this]
   ·rw [ih,e]
def tRuns (l:List Item):Nat:=bitsTo (fun x=>x.1) l l.length
def tHas (l:List Item) (b:Nat):Nat:=bitsTo (fun x=>sHas x.2 b) l l.length
def hasL (l:List Item) (k:Nat):List Int:=(List.range 256).map fun b=>(bitsTo (fun x=>sHas x.2 b) l k:Nat)
def cl (r x:Nat):Nat→Bool
 | 0=>x.testBit 0
 | i+1=>x.testBit (i+1)||(cl r x i&&r.testBit i)
def clN (r x:Nat):Nat→Nat
 | 0=>0
 | k+1=>if cl r x k then clN r x k|||2 ^ k else clN r x k
theorem clN_lt (r x:Nat):∀k,clN r x k<2 ^ k
 | 0=>by rw [clN];decide
 | k+1=>by
  have h:=clN_lt r x k
  have h2:2 ^ k<2 ^ (k+1):=Nat.pow_lt_pow_right (by decide) (by omega)
  rw [clN]
  split
  ·exact Nat.or_lt_two_pow (by omega) h2
  ·omega
theorem clN_bit (r x:Nat) (j:Nat):∀k,(clN r x k).testBit j=(decide (j<k)&&cl r x j)
 | 0=>by simp [clN]
 | k+1=>by
  rw [clN]
  have ih:=clN_bit r x j k
  by_cases hj:j=k
  ·subst hj
   have e1:decide (j<j)=false:=by simp
   have e2:decide (j<j+1)=true:=by simp
   rw [e1,Bool.false_and]at ih
   rw [e2,Bool.true_and]
   cases hq:cl r x j with
   | true=>rw [if_pos rfl,Nat.testBit_or,ih,Nat.testBit_two_pow];simp
   | false=>rw [if_neg (by decide)];exact ih
  ·have e:decide (j<k+1)=decide (j<k):=by simp only [decide_eq_decide];omega
   split
   ·have:¬k=j:=fun h=>hj h.symm
    rw [Nat.testBit_or,ih,Nat.testBit_two_pow,e];simp [this]
   ·rw [ih,e]
theorem tw_bit (z j:Nat):(z*2).testBit (j+1)=z.testBit j:=by
 have:z*2=z <<< 1:=by rw [Nat.shiftLeft_eq]
 rw [this,Nat.testBit_shiftLeft]
 simp
theorem tw_bit0 (z:Nat):(z*2).testBit 0=false:=by
 have:z*2=z <<< 1:=by rw [Nat.shiftLeft_eq]
 rw [this,Nat.testBit_shiftLeft]
 simp
theorem clN_eq {r x y n:Nat} (h0:y<2 ^ (n+1)) (h1:∀i,y.testBit i=true→cl r x i=true) (h2:∀i,i≤n→x.testBit i=true→y.testBit i=true) (h3:y|||((y&&&r)*2)=y):y=clN r x (n+1):=by
 apply Nat.eq_of_testBit_eq
 intro j
 rw [clN_bit]
 by_cases hj:j<n+1
 ·simp only [hj,decide_true,Bool.true_and]
  rw [Bool.eq_iff_iff]
  refine⟨h1 j,fun h=> ?_⟩
  induction j with
  | zero=>exact h2 0 (Nat.zero_le _) h
  | succ i ih=>
   rw [cl,Bool.or_eq_true]at h
   rcases h with h | h
   ·exact h2 _ (by omega) h
   ·rw [Bool.and_eq_true]at h
    have h4:=ih (by omega) h.1
    rw [←h3,Nat.testBit_or,tw_bit,Nat.testBit_and,h4,h.2]
    simp
 ·simp only [hj,decide_false,Bool.false_and]
  exact Nat.testBit_lt_two_pow (Nat.lt_of_lt_of_le h0 (Nat.pow_le_pow_right (by decide) (by omega)))
def tClose (l:List Item) (x:Nat):Nat:=clN (tRuns l) x (l.length+1)
def tStart (l:List Item):Nat:=tClose l 1
def tStep (l:List Item) (x b:Nat):Nat:=tClose l ((tClose l x&&&tRuns l)|||((tClose l x&&&tHas l b)*2))
def tSeek (l:List Item) (x b:Nat):Nat:=tStep l x b|||tStart l
def tDone (l:List Item) (x:Nat):Bool:=(tClose l x).testBit l.length
theorem tClose_lt (l:List Item) (x:Nat):tClose l x<2 ^ (l.length+1):=clN_lt _ _ _
theorem tSeek_lt (l:List Item) (x b:Nat):tSeek l x b<2 ^ (l.length+1):=Nat.or_lt_two_pow (clN_lt _ _ _) (clN_lt _ _ _)
def oddI (x:Item):Bool:=x.1&&x.2 != 0
def goodI (l:List Item):Bool:=decide (l.length≤60)&& !l.any oddI
def emptyI (l:List Item):Bool:= !l.any fun x=> !x.1
def pCompile (s:List UInt8):Except (Nat×Int) (List Item):=match gParse s with
 | .error e=> .error e
 | .ok l=>if goodI l=false then .error (0,2)else if emptyI l=true then .error (0,9)else .ok l
abbrev Pats:=List (List Item×Nat)
def aFeed (m:Pats) (c:Nat):Pats:=m.map fun y=>(y.1,tSeek y.1 y.2 c)
def aFound (m:Pats):Option Nat:=m.findIdx? fun y=>tDone y.1 y.2
def aFresh (m:Pats):Pats:=m.map fun y=>(y.1,tStart y.1)
def aGo:List (List UInt8)→Nat→Pats→Except (Nat×Int) Pats
 | [],_,out=> .ok out
 | s::l,i,out=>match pCompile s with
  | .error (_,e)=> .error (i,e)
  | .ok p=>aGo l (i+1) (out++[(p,tStart p)])
def aNew (l:List (List UInt8)):Except (Nat×Int) Pats:=if l.length>8 then .error (0,4)else aGo l 0 []
structure Fnd where
 mat:Bool
 full:Bool
 arm:Nat
 gone:Nat
 read:Nat
structure Lk where
 b:List UInt8
 seen:Nat
 m:Pats
 r:List UInt8
def hFeed (next:Lk→Nat→Fnd×Lk) (m:Pats) (seen:Nat) (b r:List UInt8) (rd:Nat):Fnd×Lk:=
 match aFound (aFeed m (b.getD seen 0).toNat)with
 | some k=>(⟨true,false,k,seen+1,rd⟩,⟨b.drop (seen+1),0,aFresh (aFeed m (b.getD seen 0).toNat),r⟩)
 | none=>next ⟨b,seen+1,aFeed m (b.getD seen 0).toNat,r⟩ rd
def hLook (win:Int):Nat→Lk→Nat→Fnd×Lk
 | 0,s,rd=>(⟨false,false,0,0,rd⟩,s)
 | f+1,s,rd=>
  if s.seen=s.b.length then
   match s.r with
   | []=>(⟨false,false,0,0,rd⟩,s)
   | c::r=>if(s.b.length:Int)=win then(⟨false,true,0,0,rd⟩,s)else hFeed (hLook win f) s.m s.seen (s.b++[c]) r (rd+1)
  else hFeed (hLook win f) s.m s.seen s.b s.r rd
def hlook (win:Int) (s:Lk):Fnd×Lk:=hLook win (s.b.length-s.seen+s.r.length+1) s 0
end Go.Proofs.YtbjlfobjngogkaaGreatDoor
namespace Go.Proofs.YtbjlfobjngogkaaGreatDoor
open Go
variable {K:Value→SP} {cs:St}
@[reducible] def s386 (x0:Option Addr) (y0:Nat) (z0:Nat) (K:Value→SP):SP:=
 br (decide ((y0:Int)>8)) (K (.tuple (Array.mk [.pointer none,.int .i64 0,.int .i64 4])))<|box 508 (.agg (.mk [.slice none 0 0,.int .i64 0])) fun a1=>Lp (fun self2 l3=>unI .i64 (l3.headD undef) fun i4=>br (decide (i4<(y0:Int))) (ix 144 (.slice x0 y0 z0) (i4) fun a6=>ldS 9 (a6) fun s8=>fn 415 [.string s8]<|fun v9=>unT v9 fun t10=>ex (0<t10.length)<|unP (t10.getD 0 undef) fun p11=>ex (1<t10.length)<|unI .i64 (t10.getD 1 undef) fun _=>ex (2<t10.length)<|unI .i64 (t10.getD 2 undef) fun i13=>br (i13 != 0) (K (.tuple (Array.mk [.pointer none,.int .i64 i4,.int .i64 i13])))<|ldL 506 (a1.add 0) fun a15 n16 c17=>fn 416 [.pointer p11]<|fun v18=>unI .u64 v18 fun n19=>stb (Instr.loadAt 506 (.pointer (some (a1.add 0)))) (.slice a15 n16 c17)<|sm (Instr.buildSlice 506 1 (Array.mk [(0,.agg (.mk [.pointer p11,.int .u64 n19]))]))<|fun v20=>unL v20 fun a21 n22 c23=>stb (Instr.loadAt 506 (.pointer (some (a1.add 0)))) (.slice a15 n16 c17)<|sm (Builtin.append_ (Array.mk [506,506]) 506 (Array.mk [.slice a15 n16 c17,.slice a21 n22 c23]))<|fun v24=>unL v24 fun a25 n26 c27=>st 506 (a1.add 0) (.slice a25 n26 c27)<|self2 [.int .i64 (w64 (i4+1))])<|K (.tuple (Array.mk [.pointer (some a1),.int .i64 0,.int .i64 0]))) [.int .i64 0]
theorem f386 {x0:Option Addr} {y0 z0:Nat} (h:s386 x0 y0 z0 K cs):fn 386 [.slice x0 y0 z0] K cs:=fO (an:=⟨[(5,[(18,.int .i64)])],[]⟩) Tryz.func386 h
@[reducible] def s415 (x0:ByteArray) (K:Value→SP):SP:=
 fn 428 [.string x0]<|fun v0=>unT v0 fun t1=>ex (0<t1.length)<|unL (t1.getD 0 undef) fun a2 n3 c4=>ex (1<t1.length)<|unI .i64 (t1.getD 1 undef) fun i5=>ex (2<t1.length)<|unI .i64 (t1.getD 2 undef) fun i6=>br (i6 != 0) (K (.tuple (Array.mk [.pointer none,.int .i64 i5,.int .i64 i6])))<|fn 429 [.slice a2 n3 c4]<|fun v7=>unT v7 fun t8=>ex (0<t8.length)<|unP (t8.getD 0 undef) fun p9=>ex (1<t8.length)<|unI .i64 (t8.getD 1 undef) fun i10=>K (.tuple (Array.mk [.pointer p9,.int .i64 0,.int .i64 i10]))
theorem f415 {x0:ByteArray} (h:s415 x0 K cs):fn 415 [.string x0] K cs:=fO (an:=⟨[],[]⟩) Tryz.func415 h
@[reducible] def s420 (x0:ByteArray) (K:Value→SP):SP:=
 fn 415 [.string x0]<|fun v0=>unT v0 fun t1=>ex (0<t1.length)<|unP (t1.getD 0 undef) fun _=>ex (1<t1.length)<|unI .i64 (t1.getD 1 undef) fun i3=>ex (2<t1.length)<|unI .i64 (t1.getD 2 undef) fun i4=>K (.tuple (Array.mk [.int .i64 i3,.int .i64 i4]))
theorem f420 {x0:ByteArray} (h:s420 x0 K cs):fn 420 [.string x0] K cs:=fO (an:=⟨[],[]⟩) Tryz.func420 h
@[reducible] def s448 (x0:Addr) (x1:Int) (K:Value→SP):SP:=
 ldI .i64 3 (x0.add 1) fun n1=>st 3 (x0.add 1) (.int .i64 (w64 (n1+1)))<|ldL 506 (x0.add 0) fun _ n5 _=>Lp (fun self7 l8=>unI .i64 (l8.headD undef) fun i9=>unB (l8.tail.headD undef) fun b10=>unI .i64 (l8.tail.tail.headD undef) fun i11=>br (decide (i11<(n5:Int))) (ldL 506 (x0.add 0) fun a13 n14 c15=>ix 506 (.slice a13 n14 c15) (i11) fun a17=>ldP 509 (a17.add 0) fun p19=>ldI .u64 396 (a17.add 1) fun n21=>fn 462 [.pointer p19,.int .u64 n21,.int .u8 x1]<|fun v22=>unI .u64 v22 fun n23=>st 396 (a17.add 1) (.int .u64 n23)<|br (!b10) (ldP 509 (a17.add 0) fun p26=>ldI .u64 396 (a17.add 1) fun n28=>fn 463 [.pointer p26,.int .u64 n28]<|fun v29=>unB v29 fun b30=>br (b30) (self7 [.int .i64 i11,.bool true,.int .i64 (w64 (i11+1))])<|self7 [.int .i64 i9,.bool b10,.int .i64 (w64 (i11+1))])<|self7 [.int .i64 i9,.bool b10,.int .i64 (w64 (i11+1))])<|K (.tuple (Array.mk [.int .i64 i9,.bool b10]))) [.int .i64 0,.bool false,.int .i64 0]
theorem f448 {x0:Addr} {x1:Int} (h:s448 x0 x1 K cs):fn 448 [.pointer (some x0),.int .u8 x1] K cs:=fO (an:=⟨[(6,[(6,.int .i64),(7,.bool),(24,.int .i64)])],[]⟩) Tryz.func448 h
@[reducible] def s449 (x0:Addr) (K:Value→SP):SP:=
 fn 464 [.pointer (some x0)]<|fun v0=>unP v0 fun p1=>nn (p1) fun a2=>ldA 508 (a2) fun a4=>st 508 (x0) (.agg (.mk a4))<|K (undef)
theorem f449 {x0:Addr} (h:s449 x0 K cs):fn 449 [.pointer (some x0)] K cs:=fO (an:=⟨[],[]⟩) Tryz.func449 h
@[reducible] def s464 (x0:Addr) (K:Value→SP):SP:=
 box 508 (.agg (.mk [.slice none 0 0,.int .i64 0])) fun a1=>ldL 506 (x0.add 0) fun a3 n4 c5=>Lp (fun self6 l7=>unI .i64 (l7.headD undef) fun i8=>br (decide (i8<(n4:Int))) (ix 506 (.slice a3 n4 c5) (i8) fun a10=>ldA 513 (a10) fun a12=>new 513 fun a14=>st 513 (a14) (.agg (.mk a12))<|ldL 506 (a1.add 0) fun a17 n18 c19=>ldP 509 (a14.add 0) fun p21=>ldP 509 (a14.add 0) fun p23=>fn 416 [.pointer p23]<|fun v24=>unI .u64 v24 fun n25=>stb (Instr.loadAt 509 (.pointer (some (a14.add 0)))) (.pointer p21)<|stb (Instr.loadAt 506 (.pointer (some (a1.add 0)))) (.slice a17 n18 c19)<|sm (Instr.buildSlice 506 1 (Array.mk [(0,.agg (.mk [.pointer p21,.int .u64 n25]))]))<|fun v26=>unL v26 fun a27 n28 c29=>stb (Instr.loadAt 506 (.pointer (some (a1.add 0)))) (.slice a17 n18 c19)<|sm (Builtin.append_ (Array.mk [506,506]) 506 (Array.mk [.slice a17 n18 c19,.slice a27 n28 c29]))<|fun v30=>unL v30 fun a31 n32 c33=>st 506 (a1.add 0) (.slice a31 n32 c33)<|self6 [.int .i64 (w64 (i8+1))])<|K (.pointer (some a1))) [.int .i64 0]
theorem f464 {x0:Addr} (h:s464 x0 K cs):fn 464 [.pointer (some x0)] K cs:=fO (an:=⟨[(3,[(13,.int .i64)])],[]⟩) Tryz.func464 h
@[reducible] def s416 (x0:Addr) (K:Value→SP):SP:=
 fn 430 [.pointer (some x0)]<|fun v0=>unI .u64 v0 fun n1=>K (.int .u64 n1)
theorem f416 {x0:Addr} (h:s416 x0 K cs):fn 416 [.pointer (some x0)] K cs:=fO (an:=⟨[],[]⟩) Tryz.func416 h
@[reducible] def s429 (x0:Option Addr) (y0:Nat) (z0:Nat) (K:Value→SP):SP:=
 fn 442 [.slice x0 y0 z0]<|fun v0=>unB v0 fun b1=>br (!b1) (K (.tuple (Array.mk [.pointer none,.int .i64 2])))<|fn 443 [.slice x0 y0 z0]<|fun v2=>unB v2 fun b3=>br (b3) (K (.tuple (Array.mk [.pointer none,.int .i64 9])))<|box 534 (.agg (.mk [.int .i64 (y0:Int),.int .u64 0,.int .u64 0,.int .u64 0,.int .u64 0,.int .u64 0,.int .u64 0,.int .u64 0,.int .u64 0,.int .u64 0,.int .u64 0,.int .u64 0,.int .u64 0,.int .u64 0,.int .u64 0,.int .u64 0,.int .u64 0,.int .u64 0,.int .u64 0,.int .u64 0,.int .u64 0,.int .u64 0,.int .u64 0,.int .u64 0,.int .u64 0,.int .u64 0,.int .u64 0,.int .u64 0,.int .u64 0,.int .u64 0,.int .u64 0,.int .u64 0,.int .u64 0,.int .u64 0,.int .u64 0,.int .u64 0,.int .u64 0,.int .u64 0,.int .u64 0,.int .u64 0,.int .u64 0,.int .u64 0,.int .u64 0,.int .u64 0,.int .u64 0,.int .u64 0,.int .u64 0,.int .u64 0,.int .u64 0,.int .u64 0,.int .u64 0,.int .u64 0,.int .u64 0,.int .u64 0,.int .u64 0,.int .u64 0,.int .u64 0,.int .u64 0,.int .u64 0,.int .u64 0,.int .u64 0,.int .u64 0,.int .u64 0,.int .u64 0,.int .u64 0,.int .u64 0,.int .u64 0,.int .u64 0,.int .u64 0,.int .u64 0,.int .u64 0,.int .u64 0,.int .u64 0,.int .u64 0,.int .u64 0,.int .u64 0,.int .u64 0,.int .u64 0,.int .u64 0,.int .u64 0,.int .u64 0,.int .u64 0,.int .u64 0,.int .u64 0,.int .u64 0,.int .u64 0,.int .u64 0,.int .u64 0,.int .u64 0,.int .u64 0,.int .u64 0,.int .u64 0,.int .u64 0,.int .u64 0,.int .u64 0,.int .u64 0,.int .u64 0,.int .u64 0,.int .u64 0,.int .u64 0,.int .u64 0,.int .u64 0,.int .u64 0,.int .u64 0,.int .u64 0,.int .u64 0,.int .u64 0,.int .u64 0,.int .u64 0,.int .u64 0,.int .u64 0,.int .u64 0,.int .u64 0,.int .u64 0,.int .u64 0,.int .u64 0,.int .u64 0,.int .u64 0,.int .u64 0,.int .u64 0,.int .u64 0,.int .u64 0,.int .u64 0,.int .u64 0,.int .u64 0,.int .u64 0,.int .u64 0,.int .u64 0,.int .u64 0,.int .u64 0,.int .u64 0,.int .u64 0,.int .u64 0,.int .u64 0,.int .u64 0,.int .u64 0,.int .u64 0,.int .u64 0,.int .u64 0,.int .u64 0,.int .u64 0,.int .u64 0,.int .u64 0,.int .u64 0,.int .u64 0,.int .u64 0,.int .u64 0,.int .u64 0,.int .u64 0,.int .u64 0,.int .u64 0,.int .u64 0,.int .u64 0,.int .u64 0,.int .u64 0,.int .u64 0,.int .u64 0,.int .u64 0,.int .u64 0,.int .u64 0,.int .u64 0,.int .u64 0,.int .u64 0,.int .u64 0,.int .u64 0,.int .u64 0,.int .u64 0,.int .u64 0,.int .u64 0,.int .u64 0,.int .u64 0,.int .u64 0,.int .u64 0,.int .u64 0,.int .u64 0,.int .u64 0,.int .u64 0,.int .u64 0,.int .u64 0,.int .u64 0,.int .u64 0,.int .u64 0,.int .u64 0,.int .u64 0,.int .u64 0,.int .u64 0,.int .u64 0,.int .u64 0,.int .u64 0,.int .u64 0,.int .u64 0,.int .u64 0,.int .u64 0,.int .u64 0,.int .u64 0,.int .u64 0,.int .u64 0,.int .u64 0,.int .u64 0,.int .u64 0,.int .u64 0,.int .u64 0,.int .u64 0,.int .u64 0,.int .u64 0,.int .u64 0,.int .u64 0,.int .u64 0,.int .u64 0,.int .u64 0,.int .u64 0,.int .u64 0,.int .u64 0,.int .u64 0,.int .u64 0,.int .u64 0,.int .u64 0,.int .u64 0,.int .u64 0,.int .u64 0,.int .u64 0,.int .u64 0,.int .u64 0,.int .u64 0,.int .u64 0,.int .u64 0,.int .u64 0,.int .u64 0,.int .u64 0,.int .u64 0,.int .u64 0,.int .u64 0,.int .u64 0,.int .u64 0,.int .u64 0,.int .u64 0,.int .u64 0,.int .u64 0,.int .u64 0,.int .u64 0,.int .u64 0,.int .u64 0,.int .u64 0,.int .u64 0,.int .u64 0,.int .u64 0,.int .u64 0,.int .u64 0,.int .u64 0,.int .u64 0,.int .u64 0,.int .u64 0,.int .u64 0,.int .u64 0,.int .u64 0,.int .u64 0,.int .u64 0,.int .u64 0])) fun a5=>Lp (fun self6 l7=>unI .i64 (l7.headD undef) fun i8=>br (decide (i8<(y0:Int))) (ix 246 (.slice x0 y0 z0) (i8) fun a10=>ldA 416 (a10) fun a12=>new 416 fun a14=>st 416 (a14) (.agg (.mk a12))<|qy (bsem BinOp.shl 396 (Operand.const (.int .u64 1)) (Operand.tmp 28) (.int .u64 1) (.int .u64 (IntKind.wrap .u64 i8)))<|fun v16=>unI .u64 v16 fun n17=>Jn (fun _=>Lp (fun self20 l21=>unI .i64 (l21.headD undef) fun i22=>br (decide (i22<256)) (ldA 412 (a14.add 1) fun a24=>fn 444 [.agg (.mk a24),.int .u8 (IntKind.wrap .u8 i22)]<|fun v25=>unB v25 fun b26=>br (b26) (ix 532 (.pointer (some (a5.add 2))) (i22) fun a28=>ldI .u64 396 (a28) fun n30=>ix 532 (.pointer (some (a5.add 2))) (i22) fun a32=>st 396 (a32) (.int .u64 (IntKind.wrap .u64 ↑(BitVec.ofInt 64 n30|||BitVec.ofInt 64 n17).toNat))<|self20 [.int .i64 (w64 (i22+1))])<|self20 [.int .i64 (w64 (i22+1))])<|self6 [.int .i64 (w64 (i8+1))]) [.int .i64 0])<|fun j19=>ldB 4 (a14.add 0) fun b35=>br (b35) (ldI .u64 396 (a5.add 1) fun n37=>st 396 (a5.add 1) (.int .u64 (IntKind.wrap .u64 ↑(BitVec.ofInt 64 n37|||BitVec.ofInt 64 n17).toNat))<|j19 [])<|j19 [])<|K (.tuple (Array.mk [.pointer (some a5),.int .i64 0]))) [.int .i64 0]
theorem f429 {x0:Option Addr} {y0 z0:Nat} (h:s429 x0 y0 z0 K cs):fn 429 [.slice x0 y0 z0] K cs:=fO (an:=⟨[(7,[(22,.int .i64)]),(13,[(40,.int .i64)])],[(12,[])]⟩) Tryz.func429 h
@[reducible] def s430 (x0:Addr) (K:Value→SP):SP:=
 fn 445 [.pointer (some x0),.int .u64 1]<|fun v0=>unI .u64 v0 fun n1=>K (.int .u64 n1)
theorem f430 {x0:Addr} (h:s430 x0 K cs):fn 430 [.pointer (some x0)] K cs:=fO (an:=⟨[],[]⟩) Tryz.func430 h
@[reducible] def s445 (x0:Addr) (x1:Int) (K:Value→SP):SP:=
 ldI .i64 3 (x0.add 0) fun n1=>qy (bsem BinOp.shl 396 (Operand.const (.int .u64 2)) (Operand.tmp 11) (.int .u64 2) (.int .u64 (IntKind.wrap .u64 n1)))<|fun v2=>unI .u64 v2 fun n3=>Lp (fun self4 l5=>unI .u64 (l5.headD undef) fun i6=>ldI .u64 396 (x0.add 1) fun n8=>br (IntKind.wrap .u64 ↑(BitVec.ofInt 64 i6|||BitVec.ofInt 64 (IntKind.wrap .u64 (IntKind.wrap .u64 ↑(BitVec.ofInt 64 i6&&&BitVec.ofInt 64 n8).toNat*2))).toNat == i6) (K (.int .u64 i6))<|self4 [.int .u64 (IntKind.wrap .u64 ↑(BitVec.ofInt 64 i6|||BitVec.ofInt 64 (IntKind.wrap .u64 (IntKind.wrap .u64 ↑(BitVec.ofInt 64 i6&&&BitVec.ofInt 64 n8).toNat*2))).toNat)]) [.int .u64 (IntKind.wrap .u64 ↑(BitVec.ofInt 64 x1&&&BitVec.ofInt 64 (IntKind.wrap .u64 (n3-1))).toNat)]
theorem f445 {x0:Addr} {x1:Int} (h:s445 x0 x1 K cs):fn 445 [.pointer (some x0),.int .u64 x1] K cs:=fO (an:=⟨[(2,[(1,.int .u64)])],[]⟩) Tryz.func445 h
@[reducible] def s462 (x0:Addr) (x1:Int) (x2:Int) (K:Value→SP):SP:=
 fn 471 [.pointer (some x0),.int .u64 x1,.int .u8 x2]<|fun v0=>unI .u64 v0 fun n1=>fn 430 [.pointer (some x0)]<|fun v2=>unI .u64 v2 fun n3=>K (.int .u64 (IntKind.wrap .u64 ↑(BitVec.ofInt 64 n1|||BitVec.ofInt 64 n3).toNat))
theorem f462 {x0:Addr} {x1 x2:Int} (h:s462 x0 x1 x2 K cs):fn 462 [.pointer (some x0),.int .u64 x1,.int .u8 x2] K cs:=fO (an:=⟨[],[]⟩) Tryz.func462 h
@[reducible] def s463 (x0:Addr) (x1:Int) (K:Value→SP):SP:=
 ldI .i64 3 (x0.add 0) fun n1=>fn 445 [.pointer (some x0),.int .u64 x1]<|fun v2=>unI .u64 v2 fun n3=>stb (Instr.loadAt 3 (.pointer (some (x0.add 0)))) (.int .i64 n1)<|qy (bsem BinOp.shr 396 (Operand.tmp 10) (Operand.tmp 15) (.int .u64 n3) (.int .u64 (IntKind.wrap .u64 n1)))<|fun v4=>unI .u64 v4 fun n5=>K (.bool (IntKind.wrap .u64 ↑(BitVec.ofInt 64 n5&&&BitVec.ofInt 64 1).toNat == 1))
theorem f463 {x0:Addr} {x1:Int} (h:s463 x0 x1 K cs):fn 463 [.pointer (some x0),.int .u64 x1] K cs:=fO (an:=⟨[],[]⟩) Tryz.func463 h
@[reducible] def s471 (x0:Addr) (x1:Int) (x2:Int) (K:Value→SP):SP:=
 fn 445 [.pointer (some x0),.int .u64 x1]<|fun v0=>unI .u64 v0 fun n1=>ldI .u64 396 (x0.add 1) fun n3=>qy (Instr.indexAt 532 (.pointer (some (x0.add 2))) (.int .u8 x2))<|fun v4=>unQ v4 fun a5=>ldI .u64 396 (a5) fun n7=>fn 445 [.pointer (some x0),.int .u64 (IntKind.wrap .u64 ↑(BitVec.ofInt 64 (IntKind.wrap .u64 ↑(BitVec.ofInt 64 n1&&&BitVec.ofInt 64 n3).toNat)|||BitVec.ofInt 64 (IntKind.wrap .u64 (IntKind.wrap .u64 ↑(BitVec.ofInt 64 n1&&&BitVec.ofInt 64 n7).toNat*2))).toNat)]<|fun v8=>unI .u64 v8 fun n9=>K (.int .u64 n9)
theorem f471 {x0:Addr} {x1 x2:Int} (h:s471 x0 x1 x2 K cs):fn 471 [.pointer (some x0),.int .u64 x1,.int .u8 x2] K cs:=fO (an:=⟨[],[]⟩) Tryz.func471 h
@[reducible] def s428 (x0:ByteArray) (K:Value→SP):SP:=
 Lp (fun self0 l1=>unL (l1.headD undef) fun a2 n3 c4=>unI .i64 (l1.tail.headD undef) fun i5=>br (decide (i5<(x0.size:Int))) (br ((n3:Int) == 60) (K (.tuple (Array.mk [.slice none 0 0,.int .i64 i5,.int .i64 4])))<|qy (Instr.sliceAt 9 (.string x0) (some (.int .i64 i5)) none none)<|fun v6=>unS v6 fun s7=>fn 441 [.string s7]<|fun v8=>unT v8 fun t9=>ex (0<t9.length)<|unA (t9.getD 0 undef) fun a10=>ex (1<t9.length)<|unI .i64 (t9.getD 1 undef) fun i11=>ex (2<t9.length)<|unI .i64 (t9.getD 2 undef) fun i12=>new 416 fun a14=>st 416 (a14) (.agg (.mk a10))<|br (i12 != 0) (K (.tuple (Array.mk [.slice none 0 0,.int .i64 (w64 (i5+i11)),.int .i64 i12])))<|ldA 416 (a14) fun a17=>sm (Instr.buildSlice 246 1 (Array.mk [(0,.agg (.mk a17))]))<|fun v18=>unL v18 fun a19 n20 c21=>sm (Builtin.append_ (Array.mk [246,246]) 246 (Array.mk [.slice a2 n3 c4,.slice a19 n20 c21]))<|fun v22=>unL v22 fun a23 n24 c25=>self0 [.slice a23 n24 c25,.int .i64 (w64 (i5+i11))])<|K (.tuple (Array.mk [.slice a2 n3 c4,.int .i64 0,.int .i64 0]))) [.slice none 0 0,.int .i64 0]
theorem f428 {x0:ByteArray} (h:s428 x0 K cs):fn 428 [.string x0] K cs:=fO (an:=⟨[(3,[(5,.sl),(6,.int .i64)])],[]⟩) Tryz.func428 h
@[reducible] def s441 (x0:ByteArray) (K:Value→SP):SP:=
 new 416 fun a1=>qy (Instr.index 9 (.string x0) (.int .i64 0))<|fun v2=>unI .u8 v2 fun n3=>br (n3 == 42) (st 416 (a1) (.agg (.mk [.bool true,.int .u64 0,.int .u64 0,.int .u64 0,.int .u64 0]))<|qy (loadVar 416 a1)<|fun v5=>unA v5 fun a6=>K (.tuple (Array.mk [.agg (.mk a6),.int .i64 1,.int .i64 0])))<|br (n3 == 63) (fn 455 [.int .u8 0,.int .u8 255]<|fun v7=>unA v7 fun a8=>qy (Instr.build 416 (Array.mk [(1,.agg (.mk a8))]))<|fun v9=>unA v9 fun a10=>st 416 (a1) (.agg (.mk a10))<|qy (loadVar 416 a1)<|fun v12=>unA v12 fun a13=>K (.tuple (Array.mk [.agg (.mk a13),.int .i64 1,.int .i64 0])))<|br (n3 == 91) (fn 456 [.string x0]<|fun v14=>unT v14 fun t15=>ex (0<t15.length)<|unA (t15.getD 0 undef) fun a16=>ex (1<t15.length)<|unI .i64 (t15.getD 1 undef) fun i17=>ex (2<t15.length)<|unI .i64 (t15.getD 2 undef) fun i18=>new 412 fun a20=>st 412 (a20) (.agg (.mk a16))<|ldA 412 (a20) fun a23=>qy (Instr.build 416 (Array.mk [(1,.agg (.mk a23))]))<|fun v24=>unA v24 fun a25=>st 416 (a1) (.agg (.mk a25))<|qy (loadVar 416 a1)<|fun v27=>unA v27 fun a28=>K (.tuple (Array.mk [.agg (.mk a28),.int .i64 i17,.int .i64 i18])))<|br (n3 == 93) (st 416 (a1) (.agg (.mk [.bool false,.int .u64 0,.int .u64 0,.int .u64 0,.int .u64 0]))<|qy (loadVar 416 a1)<|fun v30=>unA v30 fun a31=>K (.tuple (Array.mk [.agg (.mk a31),.int .i64 0,.int .i64 2])))<|br (n3 == 37) (br ((x0.size:Int) == 1) (st 416 (a1) (.agg (.mk [.bool false,.int .u64 0,.int .u64 0,.int .u64 0,.int .u64 0]))<|qy (loadVar 416 a1)<|fun v33=>unA v33 fun a34=>K (.tuple (Array.mk [.agg (.mk a34),.int .i64 1,.int .i64 3])))<|qy (Instr.index 9 (.string x0) (.int .i64 1))<|fun v35=>unI .u8 v35 fun n36=>fn 457 [.int .u8 n36]<|fun v37=>unA v37 fun a38=>qy (Instr.build 416 (Array.mk [(1,.agg (.mk a38))]))<|fun v39=>unA v39 fun a40=>st 416 (a1) (.agg (.mk a40))<|qy (loadVar 416 a1)<|fun v42=>unA v42 fun a43=>K (.tuple (Array.mk [.agg (.mk a43),.int .i64 2,.int .i64 0])))<|qy (Instr.index 9 (.string x0) (.int .i64 0))<|fun v44=>unI .u8 v44 fun n45=>fn 457 [.int .u8 n45]<|fun v46=>unA v46 fun a47=>qy (Instr.build 416 (Array.mk [(1,.agg (.mk a47))]))<|fun v48=>unA v48 fun a49=>st 416 (a1) (.agg (.mk a49))<|qy (loadVar 416 a1)<|fun v51=>unA v51 fun a52=>K (.tuple (Array.mk [.agg (.mk a52),.int .i64 1,.int .i64 0]))
theorem f441 {x0:ByteArray} (h:s441 x0 K cs):fn 441 [.string x0] K cs:=fO (an:=⟨[],[]⟩) Tryz.func441 h
@[reducible] def s442 (x0:Option Addr) (y0:Nat) (z0:Nat) (K:Value→SP):SP:=
 fn 458 [.slice x0 y0 z0]<|fun v0=>unB v0 fun b1=>K (.bool b1)
theorem f442 {x0:Option Addr} {y0 z0:Nat} (h:s442 x0 y0 z0 K cs):fn 442 [.slice x0 y0 z0] K cs:=fO (an:=⟨[],[]⟩) Tryz.func442 h
@[reducible] def s457 (x0:Int) (K:Value→SP):SP:=
 new 412 fun a1=>fn 455 [.int .u8 x0,.int .u8 x0]<|fun v2=>unA v2 fun a3=>st 412 (a1) (.agg (.mk a3))<|qy (loadVar 412 a1)<|fun v5=>unA v5 fun a6=>K (.agg (.mk a6))
theorem f457 {x0:Int} (h:s457 x0 K cs):fn 457 [.int .u8 x0] K cs:=fO (an:=⟨[],[]⟩) Tryz.func457 h
@[reducible] def s458 (x0:Option Addr) (y0:Nat) (z0:Nat) (K:Value→SP):SP:=
 br (decide ((y0:Int)≤60)) (fn 459 [.slice x0 y0 z0,.func (Fn.func 469) (Array.mk []) (Array.mk [])]<|fun v0=>unB v0 fun b1=>K (.bool !b1))<|K (.bool false)
theorem f458 {x0:Option Addr} {y0 z0:Nat} (h:s458 x0 y0 z0 K cs):fn 458 [.slice x0 y0 z0] K cs:=fO (an:=⟨[],[]⟩) Tryz.func458 h
@[reducible] def s469 (x0:List Value) (K:Value→SP):SP:=
 box 416 (.agg (.mk x0)) fun a1=>ldB 4 (a1.add 0) fun b3=>br (b3) (ldA 412 (a1.add 1) fun a5=>qy (Instr.build 412 (Array.mk []))<|fun v6=>unA v6 fun a7=>qy (bsem BinOp.neq 412 (Operand.tmp 7) (Operand.tmp 8) (.agg (.mk a5)) (.agg (.mk a7)))<|fun v8=>unB v8 fun b9=>K (.bool b9))<|K (.bool false)
theorem f469 {x0:List Value} (h:s469 x0 K cs):fn 469 [.agg (.mk x0)] K cs:=fO (an:=⟨[],[]⟩) Tryz.func469 h
@[reducible] def s444 (x0:List Value) (x1:Int) (K:Value→SP):SP:=
 box 412 (.agg (.mk x0)) fun a1=>ldA 412 (a1) fun a3=>fn 461 [.agg (.mk a3),.int .u8 x1]<|fun v4=>unB v4 fun b5=>K (.bool b5)
theorem f444 {x0:List Value} {x1:Int} (h:s444 x0 x1 K cs):fn 444 [.agg (.mk x0),.int .u8 x1] K cs:=fO (an:=⟨[],[]⟩) Tryz.func444 h
@[reducible] def s455 (x0:Int) (x1:Int) (K:Value→SP):SP:=
 new 412 fun a1=>fn 467 [.int .u8 x0,.int .u8 x1]<|fun v2=>unA v2 fun a3=>st 412 (a1) (.agg (.mk a3))<|qy (loadVar 412 a1)<|fun v5=>unA v5 fun a6=>K (.agg (.mk a6))
theorem f455 {x0 x1:Int} (h:s455 x0 x1 K cs):fn 455 [.int .u8 x0,.int .u8 x1] K cs:=fO (an:=⟨[],[]⟩) Tryz.func455 h
@[reducible] def s456 (x0:ByteArray) (K:Value→SP):SP:=
 new 412 fun a1=>box 560 (.agg (.mk [.string x0,.int .i64 0,.int .i64 0])) fun a3=>fn 468 [.pointer (some a3)]<|fun v4=>unA v4 fun a5=>new 412 fun a7=>st 412 (a7) (.agg (.mk a5))<|ldI .i64 57 (a3.add 2) fun n10=>br (n10 == 0) (ldA 412 (a7) fun a12=>ldI .i64 3 (a3.add 1) fun n14=>st 412 (a1) (.agg (.mk a12))<|stb (Instr.loadAt 3 (.pointer (some (a3.add 1)))) (.int .i64 n14)<|qy (loadVar 412 a1)<|fun v16=>unA v16 fun a17=>K (.tuple (Array.mk [.agg (.mk a17),.int .i64 n14,.int .i64 0])))<|qy (Instr.build 412 (Array.mk []))<|fun v18=>unA v18 fun a19=>ldI .i64 3 (a3.add 1) fun n21=>ldI .i64 57 (a3.add 2) fun n23=>st 412 (a1) (.agg (.mk a19))<|stb (Instr.loadAt 57 (.pointer (some (a3.add 2)))) (.int .i64 n23)<|stb (Instr.loadAt 3 (.pointer (some (a3.add 1)))) (.int .i64 n21)<|qy (loadVar 412 a1)<|fun v25=>unA v25 fun a26=>K (.tuple (Array.mk [.agg (.mk a26),.int .i64 n21,.int .i64 n23]))
theorem f456 {x0:ByteArray} (h:s456 x0 K cs):fn 456 [.string x0] K cs:=fO (an:=⟨[],[]⟩) Tryz.func456 h
@[reducible] def s461 (x0:List Value) (x1:Int) (K:Value→SP):SP:=
 box 412 (.agg (.mk x0)) fun a1=>qy (Instr.indexAt 412 (.pointer (some a1)) (.int .u8 (IntKind.wrap .u8 (x1.tdiv 64))))<|fun v2=>unQ v2 fun a3=>ldI .u64 396 (a3) fun n5=>qy (bsem BinOp.shr 396 (Operand.tmp 8) (Operand.tmp 10) (.int .u64 n5) (.int .u8 (x1.tmod 64)))<|fun v6=>unI .u64 v6 fun n7=>K (.bool (IntKind.wrap .u64 ↑(BitVec.ofInt 64 n7&&&BitVec.ofInt 64 1).toNat == 1))
theorem f461 {x0:List Value} {x1:Int} (h:s461 x0 x1 K cs):fn 461 [.agg (.mk x0),.int .u8 x1] K cs:=fO (an:=⟨[],[]⟩) Tryz.func461 h
@[reducible] def s467 (x0:Int) (x1:Int) (K:Value→SP):SP:=
 new 412 fun a1=>new 412 fun a3=>Lp (fun self4 l5=>unI .i64 (l5.headD undef) fun i6=>br (decide (i6≤w64 x1)) (ldA 412 (a3) fun a8=>fn 477 [.agg (.mk a8),.int .u8 (IntKind.wrap .u8 i6)]<|fun v9=>unA v9 fun a10=>st 412 (a3) (.agg (.mk a10))<|self4 [.int .i64 (w64 (i6+1))])<|ldA 412 (a3) fun a13=>st 412 (a1) (.agg (.mk a13))<|qy (loadVar 412 a1)<|fun v15=>unA v15 fun a16=>K (.agg (.mk a16))) [.int .i64 (w64 x0)]
theorem f467 {x0 x1:Int} (h:s467 x0 x1 K cs):fn 467 [.int .u8 x0,.int .u8 x1] K cs:=fO (an:=⟨[(3,[(6,.int .i64)])],[]⟩) Tryz.func467 h
@[reducible] def s468 (x0:Addr) (K:Value→SP):SP:=
 new 412 fun a1=>fn 478 [.pointer (some x0),.int .u8 91]<|fun v2=>unB v2 fun b3=>br (!b3) (fn 479 [.pointer (some x0)]<|fun v4=>unT v4 fun _=>qy (Instr.build 412 (Array.mk []))<|fun v6=>unA v6 fun a7=>st 412 (a1) (.agg (.mk a7))<|qy (loadVar 412 a1)<|fun v9=>unA v9 fun a10=>K (.agg (.mk a10)))<|ldI .i64 3 (x0.add 1) fun n12=>st 3 (x0.add 1) (.int .i64 (w64 (n12+1)))<|fn 478 [.pointer (some x0),.int .u8 94]<|fun v14=>unB v14 fun b15=>Jn (fun _=>fn 480 [.pointer (some x0)]<|fun v18=>unA v18 fun a19=>new 412 fun a21=>st 412 (a21) (.agg (.mk a19))<|Jn (fun _=>ldI .i64 57 (x0.add 2) fun n26=>br (n26 != 0) (qy (Instr.build 412 (Array.mk []))<|fun v27=>unA v27 fun a28=>st 412 (a1) (.agg (.mk a28))<|qy (loadVar 412 a1)<|fun v30=>unA v30 fun a31=>K (.agg (.mk a31)))<|ldI .i64 3 (x0.add 1) fun n33=>st 3 (x0.add 1) (.int .i64 (w64 (n33+1)))<|br (b15) (ldA 412 (a21) fun a36=>fn 482 [.agg (.mk a36)]<|fun v37=>unA v37 fun a38=>st 412 (a1) (.agg (.mk a38))<|qy (loadVar 412 a1)<|fun v40=>unA v40 fun a41=>K (.agg (.mk a41)))<|ldA 412 (a21) fun a43=>st 412 (a1) (.agg (.mk a43))<|qy (loadVar 412 a1)<|fun v45=>unA v45 fun a46=>K (.agg (.mk a46)))<|fun j24=>Lp (fun self47 _=>Jn (fun _=>ldA 412 (a21) fun a52=>fn 480 [.pointer (some x0)]<|fun v53=>unA v53 fun a54=>stb (Instr.loadAt 412 (.pointer (some a21))) (.agg (.mk a52))<|fn 481 [.agg (.mk a52),.agg (.mk a54)]<|fun v55=>unA v55 fun a56=>st 412 (a21) (.agg (.mk a56))<|self47 [])<|fun j50=>ldI .i64 57 (x0.add 2) fun n59=>br (n59 == 0) (fn 478 [.pointer (some x0),.int .u8 93]<|fun v60=>unB v60 fun b61=>br (!b61) (j50 [])<|j24 [])<|j24 []) [])<|fun j17=>br (b15) (ldI .i64 3 (x0.add 1) fun n63=>st 3 (x0.add 1) (.int .i64 (w64 (n63+1)))<|j17 [])<|j17 []
theorem f468 {x0:Addr} (h:s468 x0 K cs):fn 468 [.pointer (some x0)] K cs:=fO (an:=⟨[(9,[])],[(8,[]),(11,[]),(10,[])]⟩) Tryz.func468 h
@[reducible] def s477 (x0:List Value) (x1:Int) (K:Value→SP):SP:=
 box 412 (.agg (.mk x0)) fun a1=>new 412 fun a3=>qy (Instr.indexAt 412 (.pointer (some a1)) (.int .u8 (IntKind.wrap .u8 (x1.tdiv 64))))<|fun v4=>unQ v4 fun a5=>ldI .u64 396 (a5) fun n7=>qy (bsem BinOp.shl 396 (Operand.const (.int .u64 1)) (Operand.tmp 10) (.int .u64 1) (.int .u8 (x1.tmod 64)))<|fun v8=>unI .u64 v8 fun n9=>qy (Instr.indexAt 412 (.pointer (some a1)) (.int .u8 (IntKind.wrap .u8 (x1.tdiv 64))))<|fun v10=>unQ v10 fun a11=>st 396 (a11) (.int .u64 (IntKind.wrap .u64 ↑(BitVec.ofInt 64 n7|||BitVec.ofInt 64 n9).toNat))<|ldA 412 (a1) fun a14=>st 412 (a3) (.agg (.mk a14))<|qy (loadVar 412 a3)<|fun v16=>unA v16 fun a17=>K (.agg (.mk a17))
theorem f477 {x0:List Value} {x1:Int} (h:s477 x0 x1 K cs):fn 477 [.agg (.mk x0),.int .u8 x1] K cs:=fO (an:=⟨[],[]⟩) Tryz.func477 h
@[reducible] def s478 (x0:Addr) (x1:Int) (K:Value→SP):SP:=
 ldI .i64 3 (x0.add 1) fun n1=>ldS 9 (x0.add 0) fun s3=>br (decide (n1<(s3.size:Int))) (ldS 9 (x0.add 0) fun s5=>ldI .i64 3 (x0.add 1) fun n7=>qy (Instr.index 9 (.string s5) (.int .i64 n7))<|fun v8=>unI .u8 v8 fun n9=>K (.bool (n9 == x1)))<|K (.bool false)
theorem f478 {x0:Addr} {x1:Int} (h:s478 x0 x1 K cs):fn 478 [.pointer (some x0),.int .u8 x1] K cs:=fO (an:=⟨[],[]⟩) Tryz.func478 h
@[reducible] def s479 (x0:Addr) (K:Value→SP):SP:=
 st 57 (x0.add 2) (.int .i64 2)<|ldI .i64 3 (x0.add 1) fun n2=>ldS 9 (x0.add 0) fun s4=>br (decide (n2≥(s4.size:Int))) (ldS 9 (x0.add 0) fun s6=>st 3 (x0.add 1) (.int .i64 (s6.size:Int))<|st 57 (x0.add 2) (.int .i64 3)<|K (undef))<|K (undef)
theorem f479 {x0:Addr} (h:s479 x0 K cs):fn 479 [.pointer (some x0)] K cs:=fO (an:=⟨[],[]⟩) Tryz.func479 h
@[reducible] def s480 (x0:Addr) (K:Value→SP):SP:=
 new 412 fun a1=>fn 488 [.pointer (some x0)]<|fun v2=>unI .u8 v2 fun n3=>Jn (fun _=>ldI .i64 3 (x0.add 1) fun n7=>st 3 (x0.add 1) (.int .i64 (w64 (n7+1)))<|fn 488 [.pointer (some x0)]<|fun v9=>unI .u8 v9 fun n10=>ldI .i64 57 (x0.add 2) fun n12=>br (n12 == 0) (br (decide (n10<n3)) (ldI .i64 3 (x0.add 1) fun n14=>st 3 (x0.add 1) (.int .i64 (w64 (n14-1)))<|st 57 (x0.add 2) (.int .i64 12)<|fn 467 [.int .u8 n3,.int .u8 n10]<|fun v17=>unA v17 fun a18=>st 412 (a1) (.agg (.mk a18))<|qy (loadVar 412 a1)<|fun v20=>unA v20 fun a21=>K (.agg (.mk a21)))<|fn 467 [.int .u8 n3,.int .u8 n10]<|fun v22=>unA v22 fun a23=>st 412 (a1) (.agg (.mk a23))<|qy (loadVar 412 a1)<|fun v25=>unA v25 fun a26=>K (.agg (.mk a26)))<|fn 467 [.int .u8 n3,.int .u8 n10]<|fun v27=>unA v27 fun a28=>st 412 (a1) (.agg (.mk a28))<|qy (loadVar 412 a1)<|fun v30=>unA v30 fun a31=>K (.agg (.mk a31)))<|fun j5=>ldI .i64 57 (x0.add 2) fun n33=>br (n33 != 0) (fn 467 [.int .u8 n3,.int .u8 n3]<|fun v34=>unA v34 fun a35=>st 412 (a1) (.agg (.mk a35))<|qy (loadVar 412 a1)<|fun v37=>unA v37 fun a38=>K (.agg (.mk a38)))<|fn 478 [.pointer (some x0),.int .u8 45]<|fun v39=>unB v39 fun b40=>br (!b40) (fn 467 [.int .u8 n3,.int .u8 n3]<|fun v41=>unA v41 fun a42=>st 412 (a1) (.agg (.mk a42))<|qy (loadVar 412 a1)<|fun v44=>unA v44 fun a45=>K (.agg (.mk a45)))<|j5 []
theorem f480 {x0:Addr} (h:s480 x0 K cs):fn 480 [.pointer (some x0)] K cs:=fO (an:=⟨[],[(4,[])]⟩) Tryz.func480 h
@[reducible] def s481 (x0:List Value) (x1:List Value) (K:Value→SP):SP:=
 box 412 (.agg (.mk x0)) fun a1=>box 412 (.agg (.mk x1)) fun a3=>new 412 fun a5=>Lp (fun self6 l7=>unI .i64 (l7.headD undef) fun i8=>br (decide (i8<4)) (ix 412 (.pointer (some a1)) (i8) fun a10=>ldI .u64 396 (a10) fun n12=>ix 412 (.pointer (some a3)) (i8) fun a14=>ldI .u64 396 (a14) fun n16=>ix 412 (.pointer (some a1)) (i8) fun a18=>st 396 (a18) (.int .u64 (IntKind.wrap .u64 ↑(BitVec.ofInt 64 n12|||BitVec.ofInt 64 n16).toNat))<|self6 [.int .i64 (w64 (i8+1))])<|ldA 412 (a1) fun a21=>st 412 (a5) (.agg (.mk a21))<|qy (loadVar 412 a5)<|fun v23=>unA v23 fun a24=>K (.agg (.mk a24))) [.int .i64 0]
theorem f481 {x0 x1:List Value} (h:s481 x0 x1 K cs):fn 481 [.agg (.mk x0),.agg (.mk x1)] K cs:=fO (an:=⟨[(2,[(6,.int .i64)])],[]⟩) Tryz.func481 h
@[reducible] def s482 (x0:List Value) (K:Value→SP):SP:=
 box 412 (.agg (.mk x0)) fun a1=>new 412 fun a3=>Lp (fun self4 l5=>unI .i64 (l5.headD undef) fun i6=>br (decide (i6<4)) (ix 412 (.pointer (some a1)) (i6) fun a8=>ldI .u64 396 (a8) fun n10=>ix 412 (.pointer (some a1)) (i6) fun a12=>st 396 (a12) (.int .u64 (IntKind.wrap .u64 ↑(BitVec.ofInt 64 18446744073709551615 ^^^ BitVec.ofInt 64 n10).toNat))<|self4 [.int .i64 (w64 (i6+1))])<|ldA 412 (a1) fun a15=>st 412 (a3) (.agg (.mk a15))<|qy (loadVar 412 a3)<|fun v17=>unA v17 fun a18=>K (.agg (.mk a18))) [.int .i64 0]
theorem f482 {x0:List Value} (h:s482 x0 K cs):fn 482 [.agg (.mk x0)] K cs:=fO (an:=⟨[(2,[(4,.int .i64)])],[]⟩) Tryz.func482 h
@[reducible] def s488 (x0:Addr) (K:Value→SP):SP:=
 Jn (fun _=>ldI .i64 3 (x0.add 1) fun n3=>st 3 (x0.add 1) (.int .i64 (w64 (n3+1)))<|ldS 9 (x0.add 0) fun s6=>ldI .i64 3 (x0.add 1) fun n8=>qy (Instr.index 9 (.string s6) (.int .i64 (w64 (n8-1))))<|fun v9=>unI .u8 v9 fun n10=>K (.int .u8 n10))<|fun j1=>fn 478 [.pointer (some x0),.int .u8 37]<|fun v11=>unB v11 fun b12=>br (b12) (ldI .i64 3 (x0.add 1) fun n14=>st 3 (x0.add 1) (.int .i64 (w64 (n14+1)))<|ldI .i64 3 (x0.add 1) fun n17=>ldS 9 (x0.add 0) fun s19=>br (decide (n17≥(s19.size:Int))) (fn 479 [.pointer (some x0)]<|fun v20=>unT v20 fun _=>K (.int .u8 0))<|j1 [])<|ldI .i64 3 (x0.add 1) fun n23=>ldS 9 (x0.add 0) fun s25=>br (decide (n23≥(s25.size:Int))) (fn 479 [.pointer (some x0)]<|fun v26=>unT v26 fun _=>K (.int .u8 0))<|fn 478 [.pointer (some x0),.int .u8 93]<|fun v28=>unB v28 fun b29=>br (b29) (fn 479 [.pointer (some x0)]<|fun v30=>unT v30 fun _=>K (.int .u8 0))<|fn 478 [.pointer (some x0),.int .u8 45]<|fun v32=>unB v32 fun b33=>br (b33) (fn 479 [.pointer (some x0)]<|fun v34=>unT v34 fun _=>K (.int .u8 0))<|j1 []
theorem f488 {x0:Addr} (h:s488 x0 K cs):fn 488 [.pointer (some x0)] K cs:=fO (an:=⟨[],[(9,[])]⟩) Tryz.func488 h
@[reducible] def s443 (x0:Option Addr) (y0:Nat) (z0:Nat) (K:Value→SP):SP:=
 fn 459 [.slice x0 y0 z0,.func (Fn.func 460) (Array.mk []) (Array.mk [])]<|fun v0=>unB v0 fun b1=>K (.bool !b1)
theorem f443 {x0:Option Addr} {y0 z0:Nat} (h:s443 x0 y0 z0 K cs):fn 443 [.slice x0 y0 z0] K cs:=fO (an:=⟨[],[]⟩) Tryz.func443 h
@[reducible] def s460 (x0:List Value) (K:Value→SP):SP:=
 box 416 (.agg (.mk x0)) fun a1=>ldB 4 (a1.add 0) fun b3=>K (.bool !b3)
theorem f460 {x0:List Value} (h:s460 x0 K cs):fn 460 [.agg (.mk x0)] K cs:=fO (an:=⟨[],[]⟩) Tryz.func460 h
@[reducible] def s217 (x0:ByteArray) (K:Value→SP):SP:=
 fn 312 [.string x0,.string (bs [10])]<|fun v0=>unL v0 fun a1 n2 c3=>K (.slice a1 n2 c3)
theorem f217 {x0:ByteArray} (h:s217 x0 K cs):fn 217 [.string x0] K cs:=fO (an:=⟨[],[]⟩) Tryz.func217 h
@[reducible] def s289 (x0:ByteArray) (K:Value→SP):SP:=
 Jn (fun _=>Lp (fun self2 l3=>unI .i64 (l3.headD undef) fun i4=>br (decide (i4<(x0.size:Int))) (qy (Instr.index 9 (.string x0) (.int .i64 i4))<|fun v5=>unI .u8 v5 fun n6=>br (decide (n6<97)) (qy (Instr.index 9 (.string x0) (.int .i64 i4))<|fun v7=>unI .u8 v7 fun n8=>br (decide (n8<48)) (K (.bool false))<|qy (Instr.index 9 (.string x0) (.int .i64 i4))<|fun v9=>unI .u8 v9 fun n10=>br (decide (n10>57)) (K (.bool false))<|self2 [.int .i64 (w64 (i4+1))])<|qy (Instr.index 9 (.string x0) (.int .i64 i4))<|fun v11=>unI .u8 v11 fun n12=>br (decide (n12>122)) (qy (Instr.index 9 (.string x0) (.int .i64 i4))<|fun v13=>unI .u8 v13 fun n14=>br (decide (n14<48)) (K (.bool false))<|qy (Instr.index 9 (.string x0) (.int .i64 i4))<|fun v15=>unI .u8 v15 fun n16=>br (decide (n16>57)) (K (.bool false))<|self2 [.int .i64 (w64 (i4+1))])<|self2 [.int .i64 (w64 (i4+1))])<|K (.bool true)) [.int .i64 0])<|fun j1=>br (x0.toList == (bs []).toList) (K (.bool false))<|br (decide ((x0.size:Int)>16)) (K (.bool false))<|qy (Instr.index 9 (.string x0) (.int .i64 0))<|fun v17=>unI .u8 v17 fun n18=>br (decide (n18<97)) (K (.bool false))<|j1 []
theorem f289 {x0:ByteArray} (h:s289 x0 K cs):fn 289 [.string x0] K cs:=fO (an:=⟨[(4,[(18,.int .i64)])],[(3,[])]⟩) Tryz.func289 h
@[reducible] def s314 (x0:ByteArray) (K:Value→SP):SP:=
 br (x0.toList == (bs []).toList) (K (.bool true))<|qy (Instr.index 9 (.string x0) (.int .i64 0))<|fun v0=>unI .u8 v0 fun n1=>K (.bool (n1 == 35))
theorem f314 {x0:ByteArray} (h:s314 x0 K cs):fn 314 [.string x0] K cs:=fO (an:=⟨[],[]⟩) Tryz.func314 h
@[reducible] def s315 (x0:ByteArray) (K:Value→SP):SP:=
 br (decide ((x0.size:Int)>1200)) (K (.tuple (Array.mk [.slice none 0 0,.int .i64 1200,.int .i64 4])))<|br (x0.toList == (bs []).toList) (K (.tuple (Array.mk [.slice none 0 0,.int .i64 0,.int .i64 0])))<|Lp (fun self0 l1=>unL (l1.headD undef) fun a2 n3 c4=>unI .i64 (l1.tail.headD undef) fun i5=>new 472 fun a7=>st 472 (a7) (.agg (.mk [.string (bs []),.bool false,.int .i64 i5]))<|Jn (fun l9=>unI .i64 (l9.headD undef) fun i11=>ldA 472 (a7) fun a13=>sm (Instr.buildSlice 426 1 (Array.mk [(0,.agg (.mk a13))]))<|fun v14=>unL v14 fun a15 n16 c17=>sm (Builtin.append_ (Array.mk [426,426]) 426 (Array.mk [.slice a2 n3 c4,.slice a15 n16 c17]))<|fun v18=>unL v18 fun a19 n20 c21=>br (i11 == (x0.size:Int)) (K (.tuple (Array.mk [.slice a19 n20 c21,.int .i64 0,.int .i64 0])))<|qy (Instr.index 9 (.string x0) (.int .i64 i11))<|fun v22=>unI .u8 v22 fun n23=>br (n23 != 32) (fn 381 [.string x0,.int .i64 i11]<|fun v24=>unT v24 fun t25=>ex (0<t25.length)<|unL (t25.getD 0 undef) fun a26 n27 c28=>ex (1<t25.length)<|unI .i64 (t25.getD 1 undef) fun i29=>ex (2<t25.length)<|unI .i64 (t25.getD 2 undef) fun i30=>K (.tuple (Array.mk [.slice a26 n27 c28,.int .i64 i29,.int .i64 i30])))<|self0 [.slice a19 n20 c21,.int .i64 (w64 (i11+1))])<|fun j10=>br (decide (i5<(x0.size:Int))) (qy (Instr.index 9 (.string x0) (.int .i64 i5))<|fun v31=>unI .u8 v31 fun n32=>br (n32 == 34) (qy (Instr.sliceAt 9 (.string x0) (some (.int .i64 i5)) none none)<|fun v33=>unS v33 fun s34=>fn 379 [.string s34]<|fun v35=>unT v35 fun t36=>ex (0<t36.length)<|unS (t36.getD 0 undef) fun s37=>ex (1<t36.length)<|unI .i64 (t36.getD 1 undef) fun i38=>ex (2<t36.length)<|unI .i64 (t36.getD 2 undef) fun i39=>br (i39 != 0) (K (.tuple (Array.mk [.slice none 0 0,.int .i64 (w64 (i5+i38)),.int .i64 i39])))<|st 9 (a7.add 0) (.string s37)<|st 4 (a7.add 1) (.bool true)<|j10 [.int .i64 (w64 (i5+i38))])<|qy (Instr.sliceAt 9 (.string x0) (some (.int .i64 i5)) none none)<|fun v42=>unS v42 fun s43=>fn 380 [.string s43]<|fun v44=>unI .i64 v44 fun n45=>br (n45 == 0) (fn 381 [.string x0,.int .i64 i5]<|fun v46=>unT v46 fun t47=>ex (0<t47.length)<|unL (t47.getD 0 undef) fun a48 n49 c50=>ex (1<t47.length)<|unI .i64 (t47.getD 1 undef) fun i51=>ex (2<t47.length)<|unI .i64 (t47.getD 2 undef) fun i52=>K (.tuple (Array.mk [.slice a48 n49 c50,.int .i64 i51,.int .i64 i52])))<|qy (Instr.sliceAt 9 (.string x0) (some (.int .i64 i5)) (some (.int .i64 (w64 (i5+n45)))) none)<|fun v53=>unS v53 fun s54=>st 9 (a7.add 0) (.string s54)<|j10 [.int .i64 (w64 (i5+n45))])<|qy (Instr.sliceAt 9 (.string x0) (some (.int .i64 i5)) none none)<|fun v56=>unS v56 fun s57=>fn 380 [.string s57]<|fun v58=>unI .i64 v58 fun n59=>br (n59 == 0) (fn 381 [.string x0,.int .i64 i5]<|fun v60=>unT v60 fun t61=>ex (0<t61.length)<|unL (t61.getD 0 undef) fun a62 n63 c64=>ex (1<t61.length)<|unI .i64 (t61.getD 1 undef) fun i65=>ex (2<t61.length)<|unI .i64 (t61.getD 2 undef) fun i66=>K (.tuple (Array.mk [.slice a62 n63 c64,.int .i64 i65,.int .i64 i66])))<|qy (Instr.sliceAt 9 (.string x0) (some (.int .i64 i5)) (some (.int .i64 (w64 (i5+n59)))) none)<|fun v67=>unS v67 fun s68=>st 9 (a7.add 0) (.string s68)<|j10 [.int .i64 (w64 (i5+n59))]) [.slice none 0 0,.int .i64 0]
theorem f315 {x0:ByteArray} (h:s315 x0 K cs):fn 315 [.string x0] K cs:=fO (an:=⟨[(8,[(5,.sl),(6,.int .i64)])],[(20,[(6,.int .i64)])]⟩) Tryz.func315 h
@[reducible] def s380 (x0:ByteArray) (K:Value→SP):SP:=
 Lp (fun self0 l1=>unI .i64 (l1.headD undef) fun i2=>br (decide (i2<(x0.size:Int))) (qy (Instr.index 9 (.string x0) (.int .i64 i2))<|fun v3=>unI .u8 v3 fun n4=>fn 405 [.int .u8 n4]<|fun v5=>unB v5 fun b6=>br (b6) (self0 [.int .i64 (w64 (i2+1))])<|K (.int .i64 i2))<|K (.int .i64 i2)) [.int .i64 0]
theorem f380 {x0:ByteArray} (h:s380 x0 K cs):fn 380 [.string x0] K cs:=fO (an:=⟨[(2,[(3,.int .i64)])],[]⟩) Tryz.func380 h
@[reducible] def s381 (x0:ByteArray) (x1:Int) (K:Value→SP):SP:=
 br (decide (x1≥(x0.size:Int))) (K (.tuple (Array.mk [.slice none 0 0,.int .i64 (x0.size:Int),.int .i64 3])))<|K (.tuple (Array.mk [.slice none 0 0,.int .i64 x1,.int .i64 2]))
theorem f381 {x0:ByteArray} {x1:Int} (h:s381 x0 x1 K cs):fn 381 [.string x0,.int .i64 x1] K cs:=fO (an:=⟨[],[]⟩) Tryz.func381 h
@[reducible] def s405 (x0:Int) (K:Value→SP):SP:=
 br (decide (x0≥33)) (br (decide (x0≤126)) (br (x0 != 34) (K (.bool (x0 != 92)))<|K (.bool false))<|K (.bool false))<|K (.bool false)
theorem f405 {x0:Int} (h:s405 x0 K cs):fn 405 [.int .u8 x0] K cs:=fO (an:=⟨[],[]⟩) Tryz.func405 h
@[reducible] def s427 (x0:ByteArray) (x1:Int) (K:Value→SP):SP:=
 fn 440 [.string x0]<|fun v0=>unT v0 fun t1=>ex (0<t1.length)<|unI .i64 (t1.getD 0 undef) fun i2=>ex (1<t1.length)<|unI .i64 (t1.getD 1 undef) fun i3=>br (i3 == 0) (br (x1 != 9223372036854775807) (br (decide (i2>x1)) (K (.tuple (Array.mk [.int .i64 0,.int .i64 12])))<|K (.tuple (Array.mk [.int .i64 i2,.int .i64 i3])))<|K (.tuple (Array.mk [.int .i64 i2,.int .i64 i3])))<|K (.tuple (Array.mk [.int .i64 i2,.int .i64 i3]))
theorem f427 {x0:ByteArray} {x1:Int} (h:s427 x0 x1 K cs):fn 427 [.string x0,.int .i64 x1] K cs:=fO (an:=⟨[],[]⟩) Tryz.func427 h
@[reducible] def s379 (x0:ByteArray) (K:Value→SP):SP:=
 fn 404 [.string x0]<|fun v0=>unT v0 fun t1=>ex (0<t1.length)<|unS (t1.getD 0 undef) fun s2=>ex (1<t1.length)<|unI .i64 (t1.getD 1 undef) fun i3=>ex (2<t1.length)<|unI .i64 (t1.getD 2 undef) fun i4=>K (.tuple (Array.mk [.string s2,.int .i64 i3,.int .i64 i4]))
theorem f379 {x0:ByteArray} (h:s379 x0 K cs):fn 379 [.string x0] K cs:=fO (an:=⟨[],[]⟩) Tryz.func379 h
@[reducible] def s404 (x0:ByteArray) (K:Value→SP):SP:=
 Jn (fun _=>Lp (fun self2 l3=>unL (l3.headD undef) fun a4 n5 c6=>unI .i64 (l3.tail.headD undef) fun i7=>br (decide (i7<(x0.size:Int))) (qy (Instr.index 9 (.string x0) (.int .i64 i7))<|fun v8=>unI .u8 v8 fun n9=>Jn (fun l10=>unI .u8 (l10.headD undef) fun i12=>unI .i64 (l10.tail.headD undef) fun i13=>unB (l10.tail.tail.headD undef) fun b14=>br (!b14) (fn 425 [.string x0,.int .i64 i13]<|fun v15=>unT v15 fun t16=>ex (0<t16.length)<|unS (t16.getD 0 undef) fun s17=>ex (1<t16.length)<|unI .i64 (t16.getD 1 undef) fun i18=>ex (2<t16.length)<|unI .i64 (t16.getD 2 undef) fun i19=>K (.tuple (Array.mk [.string s17,.int .i64 i18,.int .i64 i19])))<|sm (Instr.buildSlice 110 1 (Array.mk [(0,.int .u8 i12)]))<|fun v20=>unL v20 fun a21 n22 c23=>sm (Builtin.append_ (Array.mk [110,110]) 110 (Array.mk [.slice a4 n5 c6,.slice a21 n22 c23]))<|fun v24=>unL v24 fun a25 n26 c27=>self2 [.slice a25 n26 c27,.int .i64 i13])<|fun j11=>br (n9 == 34) (qy (convert 110 9 (.slice a4 n5 c6))<|fun v28=>unS v28 fun s29=>K (.tuple (Array.mk [.string s29,.int .i64 (w64 (i7+1)),.int .i64 0])))<|br (n9 == 92) (fn 426 [.string x0,.int .i64 (w64 (i7+1))]<|fun v30=>unT v30 fun t31=>ex (0<t31.length)<|unI .u8 (t31.getD 0 undef) fun i32=>ex (1<t31.length)<|unI .i64 (t31.getD 1 undef) fun i33=>ex (2<t31.length)<|unB (t31.getD 2 undef) fun b34=>j11 [.int .u8 i32,.int .i64 i33,.bool b34])<|br (decide (n9<32)) (fn 425 [.string x0,.int .i64 i7]<|fun v35=>unT v35 fun t36=>ex (0<t36.length)<|unS (t36.getD 0 undef) fun s37=>ex (1<t36.length)<|unI .i64 (t36.getD 1 undef) fun i38=>ex (2<t36.length)<|unI .i64 (t36.getD 2 undef) fun i39=>K (.tuple (Array.mk [.string s37,.int .i64 i38,.int .i64 i39])))<|br (decide (n9>126)) (fn 425 [.string x0,.int .i64 i7]<|fun v40=>unT v40 fun t41=>ex (0<t41.length)<|unS (t41.getD 0 undef) fun s42=>ex (1<t41.length)<|unI .i64 (t41.getD 1 undef) fun i43=>ex (2<t41.length)<|unI .i64 (t41.getD 2 undef) fun i44=>K (.tuple (Array.mk [.string s42,.int .i64 i43,.int .i64 i44])))<|j11 [.int .u8 n9,.int .i64 (w64 (i7+1)),.bool true])<|fn 425 [.string x0,.int .i64 (x0.size:Int)]<|fun v45=>unT v45 fun t46=>ex (0<t46.length)<|unS (t46.getD 0 undef) fun s47=>ex (1<t46.length)<|unI .i64 (t46.getD 1 undef) fun i48=>ex (2<t46.length)<|unI .i64 (t46.getD 2 undef) fun i49=>K (.tuple (Array.mk [.string s47,.int .i64 i48,.int .i64 i49]))) [.slice none 0 0,.int .i64 1])<|fun j1=>br (x0.toList == (bs []).toList) (fn 425 [.string x0,.int .i64 0]<|fun v50=>unT v50 fun t51=>ex (0<t51.length)<|unS (t51.getD 0 undef) fun s52=>ex (1<t51.length)<|unI .i64 (t51.getD 1 undef) fun i53=>ex (2<t51.length)<|unI .i64 (t51.getD 2 undef) fun i54=>K (.tuple (Array.mk [.string s52,.int .i64 i53,.int .i64 i54])))<|qy (Instr.index 9 (.string x0) (.int .i64 0))<|fun v55=>unI .u8 v55 fun n56=>br (n56 != 34) (fn 425 [.string x0,.int .i64 0]<|fun v57=>unT v57 fun t58=>ex (0<t58.length)<|unS (t58.getD 0 undef) fun s59=>ex (1<t58.length)<|unI .i64 (t58.getD 1 undef) fun i60=>ex (2<t58.length)<|unI .i64 (t58.getD 2 undef) fun i61=>K (.tuple (Array.mk [.string s59,.int .i64 i60,.int .i64 i61])))<|j1 []
theorem f404 {x0:ByteArray} (h:s404 x0 K cs):fn 404 [.string x0] K cs:=fO (an:=⟨[(5,[(5,.sl),(6,.int .i64)])],[(4,[]),(13,[(7,.int .u8),(8,.int .i64),(9,.bool)])]⟩) Tryz.func404 h
@[reducible] def s425 (x0:ByteArray) (x1:Int) (K:Value→SP):SP:=
 br (decide (x1≥(x0.size:Int))) (K (.tuple (Array.mk [.string (bs []),.int .i64 (x0.size:Int),.int .i64 3])))<|K (.tuple (Array.mk [.string (bs []),.int .i64 x1,.int .i64 2]))
theorem f425 {x0:ByteArray} {x1:Int} (h:s425 x0 x1 K cs):fn 425 [.string x0,.int .i64 x1] K cs:=fO (an:=⟨[],[]⟩) Tryz.func425 h
@[reducible] def s426 (x0:ByteArray) (x1:Int) (K:Value→SP):SP:=
 br (decide (x1≥(x0.size:Int))) (K (.tuple (Array.mk [.int .u8 0,.int .i64 (x0.size:Int),.bool false])))<|qy (Instr.index 9 (.string x0) (.int .i64 x1))<|fun v0=>unI .u8 v0 fun n1=>br (n1 == 34) (qy (Instr.index 9 (.string x0) (.int .i64 x1))<|fun v2=>unI .u8 v2 fun n3=>K (.tuple (Array.mk [.int .u8 n3,.int .i64 (w64 (x1+1)),.bool true])))<|br (n1 == 92) (qy (Instr.index 9 (.string x0) (.int .i64 x1))<|fun v4=>unI .u8 v4 fun n5=>K (.tuple (Array.mk [.int .u8 n5,.int .i64 (w64 (x1+1)),.bool true])))<|br (n1 == 110) (K (.tuple (Array.mk [.int .u8 10,.int .i64 (w64 (x1+1)),.bool true])))<|br (n1 == 114) (K (.tuple (Array.mk [.int .u8 13,.int .i64 (w64 (x1+1)),.bool true])))<|br (n1 == 116) (K (.tuple (Array.mk [.int .u8 9,.int .i64 (w64 (x1+1)),.bool true])))<|br (n1 == 120) (fn 439 [.string x0,.int .i64 (w64 (x1+1))]<|fun v6=>unT v6 fun t7=>ex (0<t7.length)<|unI .u8 (t7.getD 0 undef) fun i8=>ex (1<t7.length)<|unI .i64 (t7.getD 1 undef) fun i9=>ex (2<t7.length)<|unB (t7.getD 2 undef) fun b10=>K (.tuple (Array.mk [.int .u8 i8,.int .i64 i9,.bool b10])))<|K (.tuple (Array.mk [.int .u8 0,.int .i64 x1,.bool false]))
theorem f426 {x0:ByteArray} {x1:Int} (h:s426 x0 x1 K cs):fn 426 [.string x0,.int .i64 x1] K cs:=fO (an:=⟨[],[]⟩) Tryz.func426 h
@[reducible] def s439 (x0:ByteArray) (x1:Int) (K:Value→SP):SP:=
 Lp (fun self0 l1=>unI .u8 (l1.headD undef) fun i2=>unI .i64 (l1.tail.headD undef) fun i3=>br (decide (i3<2)) (br (decide (w64 (x1+i3)≥(x0.size:Int))) (K (.tuple (Array.mk [.int .u8 0,.int .i64 (x0.size:Int),.bool false])))<|qy (Instr.index 9 (.string x0) (.int .i64 (w64 (x1+i3))))<|fun v4=>unI .u8 v4 fun n5=>fn 452 [.int .u8 n5]<|fun v6=>unT v6 fun t7=>ex (0<t7.length)<|unI .u8 (t7.getD 0 undef) fun i8=>ex (1<t7.length)<|unB (t7.getD 1 undef) fun b9=>br (!b9) (K (.tuple (Array.mk [.int .u8 0,.int .i64 (w64 (x1+i3)),.bool false])))<|self0 [.int .u8 (IntKind.wrap .u8 ↑(BitVec.ofInt 8 (IntKind.wrap .u8 (i2*16))|||BitVec.ofInt 8 i8).toNat),.int .i64 (w64 (i3+1))])<|K (.tuple (Array.mk [.int .u8 i2,.int .i64 (w64 (x1+2)),.bool true]))) [.int .u8 0,.int .i64 0]
theorem f439 {x0:ByteArray} {x1:Int} (h:s439 x0 x1 K cs):fn 439 [.string x0,.int .i64 x1] K cs:=fO (an:=⟨[(3,[(7,.int .u8),(11,.int .i64)])],[]⟩) Tryz.func439 h
@[reducible] def s452 (x0:Int) (K:Value→SP):SP:=
 br (decide (x0≥48)) (br (decide (x0≤57)) (K (.tuple (Array.mk [.int .u8 (IntKind.wrap .u8 (x0-48)),.bool true])))<|br (decide (x0≥97)) (br (decide (x0≤102)) (K (.tuple (Array.mk [.int .u8 (IntKind.wrap .u8 (IntKind.wrap .u8 (x0-97)+10)),.bool true])))<|K (.tuple (Array.mk [.int .u8 0,.bool false])))<|K (.tuple (Array.mk [.int .u8 0,.bool false])))<|br (decide (x0≥97)) (br (decide (x0≤102)) (K (.tuple (Array.mk [.int .u8 (IntKind.wrap .u8 (IntKind.wrap .u8 (x0-97)+10)),.bool true])))<|K (.tuple (Array.mk [.int .u8 0,.bool false])))<|K (.tuple (Array.mk [.int .u8 0,.bool false]))
theorem f452 {x0:Int} (h:s452 x0 K cs):fn 452 [.int .u8 x0] K cs:=fO (an:=⟨[],[]⟩) Tryz.func452 h
@[reducible] def s82 (x0:List Value) (K:Value→SP):SP:=
 box 45 (.agg (.mk x0)) fun a1=>new 45 fun a3=>ldL 43 (a1.add 3) fun a5 n6 c7=>fn 140 [.slice a5 n6 c7]<|fun v8=>unL v8 fun a9 n10 c11=>st 43 (a1.add 3) (.slice a9 n10 c11)<|ldL 43 (a1.add 3) fun _ n15 _=>Lp (fun self17 l18=>unI .i64 (l18.headD undef) fun i19=>br (decide (i19<(n15:Int))) (ldL 43 (a1.add 3) fun a21 n22 c23=>ldL 43 (a1.add 3) fun a25 n26 c27=>ix 43 (.slice a25 n26 c27) (i19) fun a29=>ldL 95 (a29.add 4) fun a31 n32 c33=>fn 141 [.slice a31 n32 c33]<|fun v34=>unL v34 fun a35 n36 c37=>stb (Instr.loadAt 43 (.pointer (some (a1.add 3)))) (.slice a21 n22 c23)<|ix 43 (.slice a21 n22 c23) (i19) fun a39=>st 95 (a39.add 4) (.slice a35 n36 c37)<|self17 [.int .i64 (w64 (i19+1))])<|ldA 45 (a1) fun a42=>st 45 (a3) (.agg (.mk a42))<|qy (loadVar 45 a3)<|fun v44=>unA v44 fun a45=>K (.agg (.mk a45))) [.int .i64 0]
theorem f82 {x0:List Value} (h:s82 x0 K cs):fn 82 [.agg (.mk x0)] K cs:=fO (an:=⟨[(3,[(11,.int .i64)])],[]⟩) Tryz.func82 h
@[reducible] def s118 (x0:List Value) (K:Value→SP):SP:=
 box 45 (.agg (.mk x0)) fun a1=>ldA 45 (a1) fun a3=>fn 190 [.agg (.mk a3)]<|fun v4=>unT v4 fun t5=>ex (0<t5.length)<|unI .i64 (t5.getD 0 undef) fun _=>ex (1<t5.length)<|unI .i64 (t5.getD 1 undef) fun i7=>K (.bool (i7 == 0))
theorem f118 {x0:List Value} (h:s118 x0 K cs):fn 118 [.agg (.mk x0)] K cs:=fO (an:=⟨[],[]⟩) Tryz.func118 h
@[reducible] def s190 (x0:List Value) (K:Value→SP):SP:=
 box 45 (.agg (.mk x0)) fun a1=>Jn (fun _=>ldL 43 (a1.add 3) fun a5 n6 c7=>Lp (fun self8 l9=>unI .i64 (l9.headD undef) fun i10=>br (decide (i10<(n6:Int))) (ix 43 (.slice a5 n6 c7) (i10) fun a12=>ldA 97 (a12) fun a14=>new 97 fun a16=>st 97 (a16) (.agg (.mk a14))<|ldA 45 (a1) fun a19=>ldA 97 (a16) fun a21=>fn 292 [.agg (.mk a19),.agg (.mk a21)]<|fun v22=>unI .i64 v22 fun n23=>br (n23 != 0) (K (.tuple (Array.mk [.int .i64 i10,.int .i64 n23])))<|self8 [.int .i64 (w64 (i10+1))])<|K (.tuple (Array.mk [.int .i64 0,.int .i64 0]))) [.int .i64 0])<|fun j3=>ldS 9 (a1.add 0) fun s25=>fn 289 [.string s25]<|fun v26=>unB v26 fun b27=>br (!b27) (K (.tuple (Array.mk [.int .i64 (-1),.int .i64 10])))<|ldI .i64 2 (a1.add 1) fun n29=>br (n29 != 9223372036854775807) (ldI .i64 2 (a1.add 1) fun n31=>fn 290 [.int .i64 n31,.int .i64 1,.int .i64 1000000000000]<|fun v32=>unB v32 fun b33=>br (!b33) (K (.tuple (Array.mk [.int .i64 (-1),.int .i64 12])))<|ldI .i64 3 (a1.add 2) fun n35=>fn 291 [.int .i64 n35,.int .i64 0,.int .i64 1000]<|fun v36=>unB v36 fun b37=>br (!b37) (K (.tuple (Array.mk [.int .i64 (-1),.int .i64 12])))<|ldL 43 (a1.add 3) fun _ n40 _=>br (decide ((n40:Int)>200)) (K (.tuple (Array.mk [.int .i64 (-1),.int .i64 4])))<|j3 [])<|ldI .i64 3 (a1.add 2) fun n43=>fn 291 [.int .i64 n43,.int .i64 0,.int .i64 1000]<|fun v44=>unB v44 fun b45=>br (!b45) (K (.tuple (Array.mk [.int .i64 (-1),.int .i64 12])))<|ldL 43 (a1.add 3) fun _ n48 _=>br (decide ((n48:Int)>200)) (K (.tuple (Array.mk [.int .i64 (-1),.int .i64 4])))<|j3 []
theorem f190 {x0:List Value} (h:s190 x0 K cs):fn 190 [.agg (.mk x0)] K cs:=fO (an:=⟨[(9,[(34,.int .i64)])],[(8,[])]⟩) Tryz.func190 h
@[reducible] def s290 (x0:Int) (x1:Int) (x2:Int) (K:Value→SP):SP:=
 br (decide (x0≥x1)) (K (.bool (decide (x0≤x2))))<|K (.bool false)
theorem f290 {x0 x1 x2:Int} (h:s290 x0 x1 x2 K cs):fn 290 [.int .i64 x0,.int .i64 x1,.int .i64 x2] K cs:=fO (an:=⟨[],[]⟩) Tryz.func290 h
@[reducible] def s291 (x0:Int) (x1:Int) (x2:Int) (K:Value→SP):SP:=
 br (decide (x0≥x1)) (K (.bool (decide (x0≤x2))))<|K (.bool false)
theorem f291 {x0 x1 x2:Int} (h:s291 x0 x1 x2 K cs):fn 291 [.int .i64 x0,.int .i64 x1,.int .i64 x2] K cs:=fO (an:=⟨[],[]⟩) Tryz.func291 h
@[reducible] def s292 (x0:List Value) (x1:List Value) (K:Value→SP):SP:=
 box 45 (.agg (.mk x0)) fun a1=>box 97 (.agg (.mk x1)) fun a3=>Jn (fun _=>ldI .i64 3 (a3.add 0) fun n7=>br (n7 == 1) (ldS 9 (a3.add 1) fun s9=>br (s9.toList == (bs []).toList) (K (.int .i64 9))<|ldS 9 (a3.add 1) fun s11=>br (decide ((s11.size:Int)>256)) (K (.int .i64 4))<|K (.int .i64 0))<|br (n7 == 2) (ldA 45 (a1) fun a13=>ldA 97 (a3) fun a15=>fn 359 [.agg (.mk a13),.agg (.mk a15)]<|fun v16=>unI .i64 v16 fun n17=>K (.int .i64 n17))<|br (n7 == 3) (ldA 45 (a1) fun a19=>ldI .i64 3 (a3.add 3) fun n21=>fn 360 [.agg (.mk a19),.int .i64 n21]<|fun v22=>unB v22 fun b23=>br (!b23) (K (.int .i64 13))<|K (.int .i64 0))<|br (n7 == 4) (ldI .i64 2 (a3.add 2) fun n25=>fn 290 [.int .i64 n25,.int .i64 0,.int .i64 1000000000000]<|fun v26=>unB v26 fun b27=>br (!b27) (K (.int .i64 12))<|K (.int .i64 0))<|K (.int .i64 0))<|fun j5=>ldI .i64 3 (a3.add 0) fun n29=>br (decide (n29<1)) (K (.int .i64 11))<|ldI .i64 3 (a3.add 0) fun n31=>br (decide (n31>6)) (K (.int .i64 11))<|ldA 97 (a3) fun a33=>ldA 97 (a3) fun a35=>fn 358 [.agg (.mk a35)]<|fun v36=>unA v36 fun a37=>stb (Instr.loadAt 97 (.pointer (some a3))) (.agg (.mk a33))<|fn 357 [.agg (.mk a33),.agg (.mk a37)]<|fun v38=>unB v38 fun b39=>br (!b39) (K (.int .i64 2))<|j5 []
theorem f292 {x0 x1:List Value} (h:s292 x0 x1 K cs):fn 292 [.agg (.mk x0),.agg (.mk x1)] K cs:=fO (an:=⟨[],[(5,[])]⟩) Tryz.func292 h
@[reducible] def s357 (x0:List Value) (x1:List Value) (K:Value→SP):SP:=
 box 97 (.agg (.mk x0)) fun a1=>box 97 (.agg (.mk x1)) fun a3=>Jn (fun l4=>unB (l4.headD undef) fun b6=>br (b6) (ldL 95 (a1.add 4) fun a8 n9 c10=>ldL 95 (a3.add 4) fun a12 n13 c14=>fn 397 [.slice a8 n9 c10,.slice a12 n13 c14]<|fun v15=>unB v15 fun b16=>K (.bool b16))<|K (.bool false))<|fun j5=>ldI .i64 3 (a1.add 0) fun n18=>ldI .i64 3 (a3.add 0) fun n20=>br (n18 == n20) (ldS 9 (a1.add 1) fun s22=>ldS 9 (a3.add 1) fun s24=>br (s22.toList == s24.toList) (ldI .i64 2 (a1.add 2) fun n26=>ldI .i64 2 (a3.add 2) fun n28=>br (n26 == n28) (ldI .i64 3 (a1.add 3) fun n30=>ldI .i64 3 (a3.add 3) fun n32=>br (n30 == n32) (ldI .i64 3 (a1.add 5) fun n34=>ldI .i64 3 (a3.add 5) fun n36=>br (n34 == n36) (ldI .i64 3 (a1.add 6) fun n38=>ldI .i64 3 (a3.add 6) fun n40=>j5 [.bool (n38 == n40)])<|j5 [.bool false])<|j5 [.bool false])<|j5 [.bool false])<|j5 [.bool false])<|j5 [.bool false]
theorem f357 {x0 x1:List Value} (h:s357 x0 x1 K cs):fn 357 [.agg (.mk x0),.agg (.mk x1)] K cs:=fO (an:=⟨[],[(2,[(5,.bool)])]⟩) Tryz.func357 h
@[reducible] def s358 (x0:List Value) (K:Value→SP):SP:=
 box 97 (.agg (.mk x0)) fun a1=>new 97 fun a3=>ldI .i64 3 (a1.add 0) fun n5=>new 97 fun a7=>st 97 (a7) (.agg (.mk [.int .i64 n5,.string (bs []),.int .i64 0,.int .i64 0,.slice none 0 0,.int .i64 0,.int .i64 0]))<|ldI .i64 3 (a1.add 0) fun n10=>br (n10 == 1) (ldS 9 (a1.add 1) fun s12=>st 9 (a7.add 1) (.string s12)<|ldA 97 (a7) fun a15=>st 97 (a3) (.agg (.mk a15))<|qy (loadVar 97 a3)<|fun v17=>unA v17 fun a18=>K (.agg (.mk a18)))<|br (n10 == 2) (ldI .i64 2 (a1.add 2) fun n20=>ldL 95 (a1.add 4) fun a22 n23 c24=>ldI .i64 3 (a1.add 5) fun n26=>ldI .i64 3 (a1.add 6) fun n28=>st 2 (a7.add 2) (.int .i64 n20)<|stb (Instr.loadAt 3 (.pointer (some (a1.add 6)))) (.int .i64 n28)<|stb (Instr.loadAt 3 (.pointer (some (a1.add 5)))) (.int .i64 n26)<|stb (Instr.loadAt 95 (.pointer (some (a1.add 4)))) (.slice a22 n23 c24)<|st 95 (a7.add 4) (.slice a22 n23 c24)<|stb (Instr.loadAt 3 (.pointer (some (a1.add 6)))) (.int .i64 n28)<|stb (Instr.loadAt 3 (.pointer (some (a1.add 5)))) (.int .i64 n26)<|st 3 (a7.add 5) (.int .i64 n26)<|stb (Instr.loadAt 3 (.pointer (some (a1.add 6)))) (.int .i64 n28)<|st 3 (a7.add 6) (.int .i64 n28)<|ldA 97 (a7) fun a34=>st 97 (a3) (.agg (.mk a34))<|qy (loadVar 97 a3)<|fun v36=>unA v36 fun a37=>K (.agg (.mk a37)))<|br (n10 == 3) (ldI .i64 3 (a1.add 3) fun n39=>st 3 (a7.add 3) (.int .i64 n39)<|ldA 97 (a7) fun a42=>st 97 (a3) (.agg (.mk a42))<|qy (loadVar 97 a3)<|fun v44=>unA v44 fun a45=>K (.agg (.mk a45)))<|br (n10 == 4) (ldI .i64 2 (a1.add 2) fun n47=>st 2 (a7.add 2) (.int .i64 n47)<|ldA 97 (a7) fun a50=>st 97 (a3) (.agg (.mk a50))<|qy (loadVar 97 a3)<|fun v52=>unA v52 fun a53=>K (.agg (.mk a53)))<|ldA 97 (a7) fun a55=>st 97 (a3) (.agg (.mk a55))<|qy (loadVar 97 a3)<|fun v57=>unA v57 fun a58=>K (.agg (.mk a58))
theorem f358 {x0:List Value} (h:s358 x0 K cs):fn 358 [.agg (.mk x0)] K cs:=fO (an:=⟨[],[]⟩) Tryz.func358 h
@[reducible] def s359 (x0:List Value) (x1:List Value) (K:Value→SP):SP:=
 box 45 (.agg (.mk x0)) fun a1=>box 97 (.agg (.mk x1)) fun a3=>Jn (fun _=>ldL 95 (a3.add 4) fun a7 n8 c9=>Lp (fun self10 l11=>unI .i64 (l11.headD undef) fun i12=>br (decide (i12<(n8:Int))) (ix 95 (.slice a7 n8 c9) (i12) fun a14=>ldA 146 (a14) fun a16=>new 146 fun a18=>st 146 (a18) (.agg (.mk a16))<|ldA 45 (a1) fun a21=>ldA 146 (a18) fun a23=>fn 398 [.agg (.mk a21),.agg (.mk a23)]<|fun v24=>unI .i64 v24 fun n25=>br (n25 != 0) (K (.int .i64 n25))<|self10 [.int .i64 (w64 (i12+1))])<|ldI .i64 3 (a3.add 5) fun n27=>ldI .i64 3 (a3.add 6) fun n29=>sm (Instr.buildSlice 34 2 (Array.mk [(0,.int .i64 n27),(1,.int .i64 n29)]))<|fun v30=>unL v30 fun a31 n32 c33=>Lp (fun self34 l35=>unI .i64 (l35.headD undef) fun i36=>br (decide (i36<(n32:Int))) (ix 34 (.slice a31 n32 c33) (i36) fun a38=>ldI .i64 3 (a38) fun n40=>br (n40 != -1) (ldA 45 (a1) fun a42=>fn 360 [.agg (.mk a42),.int .i64 n40]<|fun v43=>unB v43 fun b44=>br (!b44) (K (.int .i64 13))<|self34 [.int .i64 (w64 (i36+1))])<|self34 [.int .i64 (w64 (i36+1))])<|K (.int .i64 0)) [.int .i64 0]) [.int .i64 0])<|fun j5=>ldI .i64 2 (a3.add 2) fun n46=>br (n46 != 9223372036854775807) (ldI .i64 2 (a3.add 2) fun n48=>fn 290 [.int .i64 n48,.int .i64 0,.int .i64 1000000000000]<|fun v49=>unB v49 fun b50=>br (!b50) (K (.int .i64 12))<|ldL 95 (a3.add 4) fun _ n53 _=>br (decide ((n53:Int)>8)) (K (.int .i64 4))<|j5 [])<|ldL 95 (a3.add 4) fun _ n57 _=>br (decide ((n57:Int)>8)) (K (.int .i64 4))<|j5 []
theorem f359 {x0 x1:List Value} (h:s359 x0 x1 K cs):fn 359 [.agg (.mk x0),.agg (.mk x1)] K cs:=fO (an:=⟨[(6,[(28,.int .i64)]),(13,[(45,.int .i64)])],[(5,[])]⟩) Tryz.func359 h
@[reducible] def s360 (x0:List Value) (x1:Int) (K:Value→SP):SP:=
 box 45 (.agg (.mk x0)) fun a1=>br (decide (x1≥0)) (ldL 43 (a1.add 3) fun _ n4 _=>K (.bool (decide (x1≤(n4:Int)))))<|K (.bool false)
theorem f360 {x0:List Value} {x1:Int} (h:s360 x0 x1 K cs):fn 360 [.agg (.mk x0),.int .i64 x1] K cs:=fO (an:=⟨[],[]⟩) Tryz.func360 h
@[reducible] def s398 (x0:List Value) (x1:List Value) (K:Value→SP):SP:=
 box 45 (.agg (.mk x0)) fun a1=>box 146 (.agg (.mk x1)) fun a3=>ldS 9 (a3.add 0) fun s5=>br (decide ((s5.size:Int)>64)) (K (.int .i64 4))<|ldS 9 (a3.add 0) fun s7=>fn 420 [.string s7]<|fun v8=>unT v8 fun t9=>ex (0<t9.length)<|unI .i64 (t9.getD 0 undef) fun _=>ex (1<t9.length)<|unI .i64 (t9.getD 1 undef) fun i11=>br (i11 != 0) (K (.int .i64 i11))<|ldA 45 (a1) fun a13=>ldI .i64 3 (a3.add 1) fun n15=>fn 360 [.agg (.mk a13),.int .i64 n15]<|fun v16=>unB v16 fun b17=>br (!b17) (K (.int .i64 13))<|K (.int .i64 0)
theorem f398 {x0 x1:List Value} (h:s398 x0 x1 K cs):fn 398 [.agg (.mk x0),.agg (.mk x1)] K cs:=fO (an:=⟨[],[]⟩) Tryz.func398 h
end Go.Proofs.YtbjlfobjngogkaaGreatDoor
namespace Go.Proofs.YtbjlfobjngogkaaGreatDoor
open Go
variable {K:Value→SP} {cs:St}
@[reducible] def s85 (x0:Int) (x1:Int) (K:Value→SP):SP:=
 fn 145 [.int .i64 x0]<|fun v0=>unI .i64 v0 fun n1=>fn 145 [.int .i64 x1]<|fun v2=>unI .i64 v2 fun n3=>br (decide (n1≥w64 (9223372036854775807-n3))) (K (.int .i64 9223372036854775807))<|K (.int .i64 (w64 (n1+n3)))
theorem f85 {x0 x1:Int} (h:s85 x0 x1 K cs):fn 85 [.int .i64 x0,.int .i64 x1] K cs:=fO (an:=⟨[],[]⟩) Tryz.func85 h
@[reducible] def s145 (x0:Int) (K:Value→SP):SP:=
 K (.int .i64 (if 0>x0 then 0 else x0))
theorem f145 {x0:Int} (h:s145 x0 K cs):fn 145 [.int .i64 x0] K cs:=fO (an:=⟨[],[]⟩) Tryz.func145 h
@[reducible] def s158 (x0:Int) (x1:Int) (K:Value→SP):SP:=
 br (x0 != 9223372036854775807) (fn 145 [.int .i64 x0]<|fun v0=>unI .i64 v0 fun n1=>fn 145 [.int .i64 x1]<|fun v2=>unI .i64 v2 fun n3=>K (.bool (decide (n1≤n3))))<|K (.bool false)
theorem f158 {x0 x1:Int} (h:s158 x0 x1 K cs):fn 158 [.int .i64 x0,.int .i64 x1] K cs:=fO (an:=⟨[],[]⟩) Tryz.func158 h
@[reducible] def s228 (x0:Int) (K:Value→SP):SP:=
 fn 145 [.int .i64 x0]<|fun v0=>unI .i64 v0 fun n1=>K (.int .i64 n1)
theorem f228 {x0:Int} (h:s228 x0 K cs):fn 228 [.int .i64 x0] K cs:=fO (an:=⟨[],[]⟩) Tryz.func228 h
@[reducible] def s340 (x0:Option Addr) (y0:Nat) (z0:Nat) (K:Value→SP):SP:=
 Lp (fun self0 l1=>unI .i64 (l1.headD undef) fun i2=>unI .i64 (l1.tail.headD undef) fun i3=>br (decide (i3<(y0:Int))) (ix 123 (.slice x0 y0 z0) (i3) fun a5=>ldI .i64 2 (a5) fun n7=>fn 145 [.int .i64 n7]<|fun v8=>unI .i64 v8 fun n9=>self0 [.int .i64 (if n9<i2 then n9 else i2),.int .i64 (w64 (i3+1))])<|K (.int .i64 i2)) [.int .i64 9223372036854775807,.int .i64 0]
theorem f340 {x0:Option Addr} {y0 z0:Nat} (h:s340 x0 y0 z0 K cs):fn 340 [.slice x0 y0 z0] K cs:=fO (an:=⟨[(3,[(3,.int .i64),(8,.int .i64)])],[]⟩) Tryz.func340 h
@[reducible] def s440 (x0:ByteArray) (K:Value→SP):SP:=
 br (x0.toList == (bs [110,101,118,101,114]).toList) (K (.tuple (Array.mk [.int .i64 9223372036854775807,.int .i64 0])))<|fn 453 [.string x0]<|fun v0=>unB v0 fun b1=>br (!b1) (K (.tuple (Array.mk [.int .i64 0,.int .i64 2])))<|fn 454 [.string x0,.int .i64 10,.int .i64 64]<|fun v2=>unT v2 fun t3=>ex (0<t3.length)<|unI .i64 (t3.getD 0 undef) fun i4=>ex (1<t3.length)<|unV (t3.getD 1 undef) fun v5=>qy (bsem BinOp.neq 118 (Operand.tmp 16) (Operand.const .nilIface) v5 .nilIface)<|fun v6=>unB v6 fun b7=>br (b7) (K (.tuple (Array.mk [.int .i64 0,.int .i64 12])))<|br (i4 == 9223372036854775807) (K (.tuple (Array.mk [.int .i64 0,.int .i64 12])))<|K (.tuple (Array.mk [.int .i64 i4,.int .i64 0]))
theorem f440 {x0:ByteArray} (h:s440 x0 K cs):fn 440 [.string x0] K cs:=fO (an:=⟨[],[]⟩) Tryz.func440 h
@[reducible] def s453 (x0:ByteArray) (K:Value→SP):SP:=
 Lp (fun self0 l1=>unI .i64 (l1.headD undef) fun i2=>br (decide (i2<(x0.size:Int))) (qy (Instr.index 9 (.string x0) (.int .i64 i2))<|fun v3=>unI .u8 v3 fun n4=>br (decide (n4<48)) (K (.bool false))<|qy (Instr.index 9 (.string x0) (.int .i64 i2))<|fun v5=>unI .u8 v5 fun n6=>br (decide (n6>57)) (K (.bool false))<|self0 [.int .i64 (w64 (i2+1))])<|br (x0.toList == (bs [48]).toList) (K (.bool true))<|br (!x0.toList == (bs []).toList) (qy (Instr.index 9 (.string x0) (.int .i64 0))<|fun v7=>unI .u8 v7 fun n8=>K (.bool (n8 != 48)))<|K (.bool false)) [.int .i64 0]
theorem f453 {x0:ByteArray} (h:s453 x0 K cs):fn 453 [.string x0] K cs:=fO (an:=⟨[(2,[(6,.int .i64)])],[]⟩) Tryz.func453 h
@[reducible] def s68 (x0:List Value) (K:Value→SP):SP:=
 box 23 (.agg (.mk x0)) fun a1=>ldA 23 (a1) fun a3=>fn 132 [.agg (.mk a3)]<|fun v4=>unB v4 fun b5=>K (.bool b5)
theorem f68 {x0:List Value} (h:s68 x0 K cs):fn 68 [.agg (.mk x0)] K cs:=fO (an:=⟨[],[]⟩) Tryz.func68 h
@[reducible] def s132 (x0:List Value) (K:Value→SP):SP:=
 box 23 (.agg (.mk x0)) fun a1=>Jn (fun l2=>unB (l2.headD undef) fun b4=>br (b4) (ldI .i64 3 (a1.add 0) fun n6=>fn 211 [.int .i64 n6,.int .i64 1024]<|fun v7=>unB v7 fun b8=>br (b8) (ldI .i64 3 (a1.add 4) fun n10=>fn 211 [.int .i64 n10,.int .i64 1000000]<|fun v11=>unB v11 fun b12=>br (b12) (ldI .i64 3 (a1.add 5) fun n14=>fn 211 [.int .i64 n14,.int .i64 64]<|fun v15=>unB v15 fun b16=>K (.bool b16))<|K (.bool false))<|K (.bool false))<|K (.bool false))<|fun j3=>ldI .i64 3 (a1.add 1) fun n18=>fn 211 [.int .i64 n18,.int .i64 4096]<|fun v19=>unB v19 fun b20=>br (b20) (ldI .i64 3 (a1.add 2) fun n22=>fn 211 [.int .i64 n22,.int .i64 4096]<|fun v23=>unB v23 fun b24=>br (b24) (ldI .i64 3 (a1.add 3) fun n26=>fn 211 [.int .i64 n26,.int .i64 4096]<|fun v27=>unB v27 fun b28=>j3 [.bool b28])<|j3 [.bool false])<|j3 [.bool false]
theorem f132 {x0:List Value} (h:s132 x0 K cs):fn 132 [.agg (.mk x0)] K cs:=fO (an:=⟨[],[(2,[(3,.bool)])]⟩) Tryz.func132 h
@[reducible] def s211 (x0:Int) (x1:Int) (K:Value→SP):SP:=
 br (decide (x0≥1)) (K (.bool (decide (x0≤x1))))<|K (.bool false)
theorem f211 {x0 x1:Int} (h:s211 x0 x1 K cs):fn 211 [.int .i64 x0,.int .i64 x1] K cs:=fO (an:=⟨[],[]⟩) Tryz.func211 h
@[reducible] def s251 (x0:List Value) (x1:Int) (x2:Int) (x3:Int) (K:Value→SP):SP:=
 box 23 (.agg (.mk x0)) fun a1=>ldA 23 (a1) fun a3=>fn 132 [.agg (.mk a3)]<|fun v4=>unB v4 fun b5=>br (!b5) (K (.int .i64 0))<|br (x1 == 2) (ldI .i64 3 (a1.add 2) fun n7=>ldI .i64 3 (a1.add 2) fun n9=>ldI .i64 3 (a1.add 2) fun n11=>fn 336 [.int .i64 x2,.int .i64 n7]<|fun v12=>unI .i64 v12 fun n13=>stb (Instr.loadAt 3 (.pointer (some (a1.add 2)))) (.int .i64 n11)<|stb (Instr.loadAt 3 (.pointer (some (a1.add 2)))) (.int .i64 n9)<|fn 336 [.int .i64 x3,.int .i64 n9]<|fun v14=>unI .i64 v14 fun n15=>stb (Instr.loadAt 3 (.pointer (some (a1.add 2)))) (.int .i64 n11)<|K (.int .i64 (w64 (1+if n11<w64 (n13+n15)then n11 else w64 (n13+n15)))))<|br (x1 == 1) (ldI .i64 3 (a1.add 3) fun n17=>fn 336 [.int .i64 x3,.int .i64 n17]<|fun v18=>unI .i64 v18 fun n19=>K (.int .i64 (w64 (1+n19))))<|K (.int .i64 1)
theorem f251 {x0:List Value} {x1 x2 x3:Int} (h:s251 x0 x1 x2 x3 K cs):fn 251 [.agg (.mk x0),.int .i64 x1,.int .i64 x2,.int .i64 x3] K cs:=fO (an:=⟨[],[]⟩) Tryz.func251 h
@[reducible] def s336 (x0:Int) (x1:Int) (K:Value→SP):SP:=
 K (.int .i64 (if x1<if 0>x0 then 0 else x0 then x1 else if 0>x0 then 0 else x0))
theorem f336 {x0 x1:Int} (h:s336 x0 x1 K cs):fn 336 [.int .i64 x0,.int .i64 x1] K cs:=fO (an:=⟨[],[]⟩) Tryz.func336 h
@[reducible] def s229 (x0:Int) (x1:Int) (K:Value→SP):SP:=
 new 306 fun a1=>fn 322 [.int .i64 x0,.int .i64 x1]<|fun v2=>unI .i64 v2 fun n3=>st 306 (a1) (.agg (.mk [.int .i64 9223372036854775807,.int .i64 n3,.int .i64 9223372036854775807]))<|qy (loadVar 306 a1)<|fun v5=>unA v5 fun a6=>K (.agg (.mk a6))
theorem f229 {x0 x1:Int} (h:s229 x0 x1 K cs):fn 229 [.int .i64 x0,.int .i64 x1] K cs:=fO (an:=⟨[],[]⟩) Tryz.func229 h
@[reducible] def s263 (x0:List Value) (K:Value→SP):SP:=
 box 306 (.agg (.mk x0)) fun a1=>ldI .i64 2 (a1.add 0) fun n3=>ldI .i64 2 (a1.add 1) fun n5=>ldI .i64 2 (a1.add 2) fun n7=>sm (Instr.buildSlice 123 3 (Array.mk [(0,.int .i64 n3),(1,.int .i64 n5),(2,.int .i64 n7)]))<|fun v8=>unL v8 fun a9 n10 c11=>fn 340 [.slice a9 n10 c11]<|fun v12=>unI .i64 v12 fun n13=>K (.int .i64 n13)
theorem f263 {x0:List Value} (h:s263 x0 K cs):fn 263 [.agg (.mk x0)] K cs:=fO (an:=⟨[],[]⟩) Tryz.func263 h
@[reducible] def s322 (x0:Int) (x1:Int) (K:Value→SP):SP:=
 br (x1 == 9223372036854775807) (K (.int .i64 9223372036854775807))<|fn 85 [.int .i64 x0,.int .i64 x1]<|fun v0=>unI .i64 v0 fun n1=>K (.int .i64 n1)
theorem f322 {x0 x1:Int} (h:s322 x0 x1 K cs):fn 322 [.int .i64 x0,.int .i64 x1] K cs:=fO (an:=⟨[],[]⟩) Tryz.func322 h
@[reducible] def s323 (x0:List Value) (K:Value→SP):SP:=
 box 306 (.agg (.mk x0)) fun a1=>new 306 fun a3=>st 2 (a1.add 0) (.int .i64 9223372036854775807)<|ldA 306 (a1) fun a6=>st 306 (a3) (.agg (.mk a6))<|qy (loadVar 306 a3)<|fun v8=>unA v8 fun a9=>K (.agg (.mk a9))
theorem f323 {x0:List Value} (h:s323 x0 K cs):fn 323 [.agg (.mk x0)] K cs:=fO (an:=⟨[],[]⟩) Tryz.func323 h
@[reducible] def s326 (x0:List Value) (x1:Int) (x2:Int) (K:Value→SP):SP:=
 box 306 (.agg (.mk x0)) fun a1=>new 306 fun a3=>fn 322 [.int .i64 x1,.int .i64 x2]<|fun v4=>unI .i64 v4 fun n5=>st 2 (a1.add 0) (.int .i64 n5)<|ldA 306 (a1) fun a8=>st 306 (a3) (.agg (.mk a8))<|qy (loadVar 306 a3)<|fun v10=>unA v10 fun a11=>K (.agg (.mk a11))
theorem f326 {x0:List Value} {x1 x2:Int} (h:s326 x0 x1 x2 K cs):fn 326 [.agg (.mk x0),.int .i64 x1,.int .i64 x2] K cs:=fO (an:=⟨[],[]⟩) Tryz.func326 h
@[reducible] def s327 (x0:List Value) (x1:Int) (K:Value→SP):SP:=
 box 306 (.agg (.mk x0)) fun a1=>new 306 fun a3=>ldI .i64 2 (a1.add 2) fun n5=>sm (Instr.buildSlice 123 2 (Array.mk [(0,.int .i64 n5),(1,.int .i64 x1)]))<|fun v6=>unL v6 fun a7 n8 c9=>fn 340 [.slice a7 n8 c9]<|fun v10=>unI .i64 v10 fun n11=>st 2 (a1.add 2) (.int .i64 n11)<|ldA 306 (a1) fun a14=>st 306 (a3) (.agg (.mk a14))<|qy (loadVar 306 a3)<|fun v16=>unA v16 fun a17=>K (.agg (.mk a17))
theorem f327 {x0:List Value} {x1:Int} (h:s327 x0 x1 K cs):fn 327 [.agg (.mk x0),.int .i64 x1] K cs:=fO (an:=⟨[],[]⟩) Tryz.func327 h
@[reducible] def s333 (x0:List Value) (x1:Int) (K:Value→SP):SP:=
 box 306 (.agg (.mk x0)) fun a1=>ldI .i64 2 (a1.add 1) fun n3=>ldI .i64 2 (a1.add 2) fun n5=>fn 228 [.int .i64 n3]<|fun v6=>unI .i64 v6 fun n7=>stb (Instr.loadAt 2 (.pointer (some (a1.add 2)))) (.int .i64 n5)<|fn 228 [.int .i64 n5]<|fun v8=>unI .i64 v8 fun n9=>br (decide (n7≤n9)) (fn 158 [.int .i64 n7,.int .i64 x1]<|fun v10=>unB v10 fun b11=>br (b11) (K (.tuple (Array.mk [.int .i64 3,.bool true])))<|br (decide (n9<n7)) (fn 158 [.int .i64 n9,.int .i64 x1]<|fun v12=>unB v12 fun b13=>br (b13) (K (.tuple (Array.mk [.int .i64 5,.bool true])))<|K (.tuple (Array.mk [.int .i64 0,.bool false])))<|K (.tuple (Array.mk [.int .i64 0,.bool false])))<|br (decide (n9<n7)) (fn 158 [.int .i64 n9,.int .i64 x1]<|fun v14=>unB v14 fun b15=>br (b15) (K (.tuple (Array.mk [.int .i64 5,.bool true])))<|K (.tuple (Array.mk [.int .i64 0,.bool false])))<|K (.tuple (Array.mk [.int .i64 0,.bool false]))
theorem f333 {x0:List Value} {x1:Int} (h:s333 x0 x1 K cs):fn 333 [.agg (.mk x0),.int .i64 x1] K cs:=fO (an:=⟨[],[]⟩) Tryz.func333 h
@[reducible] def s335 (x0:List Value) (x1:Int) (K:Value→SP):SP:=
 box 306 (.agg (.mk x0)) fun a1=>ldI .i64 2 (a1.add 0) fun n3=>fn 158 [.int .i64 n3,.int .i64 x1]<|fun v4=>unB v4 fun b5=>K (.bool b5)
theorem f335 {x0:List Value} {x1:Int} (h:s335 x0 x1 K cs):fn 335 [.agg (.mk x0),.int .i64 x1] K cs:=fO (an:=⟨[],[]⟩) Tryz.func335 h
@[reducible] def s175 (x0:Addr) (K:Value→SP):SP:=
 ldL 110 (x0.add 0) fun _ n2 _=>ldI .i64 3 (x0.add 2) fun n5=>K (.int .i64 (w64 ((n2:Int)-n5)))
theorem f175 {x0:Addr} (h:s175 x0 K cs):fn 175 [.pointer (some x0)] K cs:=fO (an:=⟨[],[]⟩) Tryz.func175 h
@[reducible] def s230 (x0:Int) (K:Value→SP):SP:=
 sm (Instr.makeSlice 110 (.int .i64 (if 4096<if 1>x0 then 1 else x0 then 4096 else if 1>x0 then 1 else x0)) (.int .i64 (if 4096<if 1>x0 then 1 else x0 then 4096 else if 1>x0 then 1 else x0)))<|fun v0=>unL v0 fun a1 n2 c3=>box 380 (.agg (.mk [.slice a1 n2 c3,.int .i64 0,.int .i64 0])) fun a5=>K (.pointer (some a5))
theorem f230 {x0:Int} (h:s230 x0 K cs):fn 230 [.int .i64 x0] K cs:=fO (an:=⟨[],[]⟩) Tryz.func230 h
@[reducible] def s248 (x0:Addr) (K:Value→SP):SP:=
 ldI .i64 3 (x0.add 2) fun n1=>K (.int .i64 n1)
theorem f248 {x0:Addr} (h:s248 x0 K cs):fn 248 [.pointer (some x0)] K cs:=fO (an:=⟨[],[]⟩) Tryz.func248 h
@[reducible] def s328 (x0:Addr) (x1:ByteArray) (K:Value→SP):SP:=
 ldL 110 (x0.add 0) fun _ n2 _=>ldI .i64 3 (x0.add 2) fun n5=>ldI .i64 3 (x0.add 2) fun n7=>fn 388 [.pointer (some x0),.int .i64 n7]<|fun v8=>unI .i64 v8 fun n9=>ldL 110 (x0.add 0) fun a11 n12 c13=>qy (Instr.sliceAt 110 (.slice a11 n12 c13) (some (.int .i64 n9)) none none)<|fun v14=>unL v14 fun a15 n16 c17=>qy (Instr.sliceAt 9 (.string x1) none (some (.int .i64 (if w64 ((n2:Int)-n5)<(x1.size:Int)then w64 ((n2:Int)-n5)else(x1.size:Int)))) none)<|fun v18=>unS v18 fun s19=>sm (Builtin.copy_ (Array.mk [110,9]) 3 (Array.mk [.slice a15 n16 c17,.string s19]))<|fun v20=>unI .i64 v20 fun n21=>ldL 110 (x0.add 0) fun a23 n24 c25=>qy (Instr.sliceAt 9 (.string x1) (some (.int .i64 n21)) (some (.int .i64 (if w64 ((n2:Int)-n5)<(x1.size:Int)then w64 ((n2:Int)-n5)else(x1.size:Int)))) none)<|fun v26=>unS v26 fun s27=>sm (Builtin.copy_ (Array.mk [110,9]) 3 (Array.mk [.slice a23 n24 c25,.string s27]))<|fun v28=>unI .i64 v28 fun _=>ldI .i64 3 (x0.add 2) fun n31=>st 3 (x0.add 2) (.int .i64 (w64 (n31+if w64 ((n2:Int)-n5)<(x1.size:Int)then w64 ((n2:Int)-n5)else(x1.size:Int))))<|K (.int .i64 (if w64 ((n2:Int)-n5)<(x1.size:Int)then w64 ((n2:Int)-n5)else(x1.size:Int)))
theorem f328 {x0:Addr} {x1:ByteArray} (h:s328 x0 x1 K cs):fn 328 [.pointer (some x0),.string x1] K cs:=fO (an:=⟨[],[]⟩) Tryz.func328 h
@[reducible] def s388 (x0:Addr) (x1:Int) (K:Value→SP):SP:=
 ldI .i64 3 (x0.add 1) fun n1=>ldL 110 (x0.add 0) fun _ n4 _=>qy (bsem BinOp.rem 3 (Operand.tmp 10) (Operand.tmp 15) (.int .i64 (w64 (n1+x1))) (.int .i64 (n4:Int)))<|fun v6=>unI .i64 v6 fun n7=>K (.int .i64 n7)
theorem f388 {x0:Addr} {x1:Int} (h:s388 x0 x1 K cs):fn 388 [.pointer (some x0),.int .i64 x1] K cs:=fO (an:=⟨[],[]⟩) Tryz.func388 h
@[reducible] def s431 (x0:Addr) (x1:Int) (K:Value→SP):SP:=
 ldI .i64 3 (x0.add 2) fun n1=>fn 446 [.pointer (some x0),.int .i64 0,.int .i64 (if n1<if 0>x1 then 0 else x1 then n1 else if 0>x1 then 0 else x1)]<|fun v2=>unS v2 fun s3=>fn 447 [.pointer (some x0),.int .i64 (if n1<if 0>x1 then 0 else x1 then n1 else if 0>x1 then 0 else x1)]<|fun v4=>unT v4 fun _=>K (.string s3)
theorem f431 {x0:Addr} {x1:Int} (h:s431 x0 x1 K cs):fn 431 [.pointer (some x0),.int .i64 x1] K cs:=fO (an:=⟨[],[]⟩) Tryz.func431 h
@[reducible] def s446 (x0:Addr) (x1:Int) (x2:Int) (K:Value→SP):SP:=
 br (x2 == 0) (K (.string (bs [])))<|fn 388 [.pointer (some x0),.int .i64 x1]<|fun v0=>unI .i64 v0 fun n1=>ldL 110 (x0.add 0) fun _ n4 _=>br (decide (w64 (n1+x2)≤(n4:Int))) (ldL 110 (x0.add 0) fun a7 n8 c9=>qy (Instr.sliceAt 110 (.slice a7 n8 c9) (some (.int .i64 n1)) (some (.int .i64 (w64 (n1+x2)))) none)<|fun v10=>unL v10 fun a11 n12 c13=>qy (convert 110 9 (.slice a11 n12 c13))<|fun v14=>unS v14 fun s15=>K (.string s15))<|ldL 110 (x0.add 0) fun a17 n18 c19=>qy (Instr.sliceAt 110 (.slice a17 n18 c19) (some (.int .i64 n1)) none none)<|fun v20=>unL v20 fun a21 n22 c23=>qy (convert 110 9 (.slice a21 n22 c23))<|fun v24=>unS v24 fun s25=>ldL 110 (x0.add 0) fun a27 n28 c29=>ldL 110 (x0.add 0) fun _ n32 _=>qy (Instr.sliceAt 110 (.slice a27 n28 c29) none (some (.int .i64 (w64 (w64 (n1+x2)-(n32:Int))))) none)<|fun v34=>unL v34 fun a35 n36 c37=>qy (convert 110 9 (.slice a35 n36 c37))<|fun v38=>unS v38 fun s39=>qy (bsem BinOp.add 9 (Operand.tmp 38) (Operand.tmp 53) (.string s25) (.string s39))<|fun v40=>unS v40 fun s41=>K (.string s41)
theorem f446 {x0:Addr} {x1 x2:Int} (h:s446 x0 x1 x2 K cs):fn 446 [.pointer (some x0),.int .i64 x1,.int .i64 x2] K cs:=fO (an:=⟨[],[]⟩) Tryz.func446 h
@[reducible] def s447 (x0:Addr) (x1:Int) (K:Value→SP):SP:=
 fn 388 [.pointer (some x0),.int .i64 x1]<|fun v0=>unI .i64 v0 fun n1=>st 3 (x0.add 1) (.int .i64 n1)<|ldI .i64 3 (x0.add 2) fun n4=>st 3 (x0.add 2) (.int .i64 (w64 (n4-x1)))<|ldI .i64 3 (x0.add 2) fun n7=>br (n7 == 0) (st 3 (x0.add 1) (.int .i64 0)<|K (undef))<|K (undef)
theorem f447 {x0:Addr} {x1:Int} (h:s447 x0 x1 K cs):fn 447 [.pointer (some x0),.int .i64 x1] K cs:=fO (an:=⟨[],[]⟩) Tryz.func447 h
@[reducible] def s176 (x0:Addr) (K:Value→SP):SP:=
 ldS 9 (x0.add 1) fun s1=>ldI .i64 3 (x0.add 2) fun n3=>ldI .i64 3 (x0.add 3) fun n5=>qy (Instr.sliceAt 9 (.string s1) (some (.int .i64 n3)) (some (.int .i64 n5)) none)<|fun v6=>unS v6 fun s7=>K (.string s7)
theorem f176 {x0:Addr} (h:s176 x0 K cs):fn 176 [.pointer (some x0)] K cs:=fO (an:=⟨[],[]⟩) Tryz.func176 h
@[reducible] def s232 (x0:Int) (K:Value→SP):SP:=
 box 382 (.agg (.mk [.int .i64 (if 4096<if 1>x0 then 1 else x0 then 4096 else if 1>x0 then 1 else x0),.string (bs []),.int .i64 0,.int .i64 0,.int .i64 0])) fun a1=>K (.pointer (some a1))
theorem f232 {x0:Int} (h:s232 x0 K cs):fn 232 [.int .i64 x0] K cs:=fO (an:=⟨[],[]⟩) Tryz.func232 h
@[reducible] def s250 (x0:Addr) (K:Value→SP):SP:=
 ldS 9 (x0.add 1) fun s1=>ldI .i64 3 (x0.add 3) fun n3=>K (.int .i64 (w64 ((s1.size:Int)-n3)))
theorem f250 {x0:Addr} (h:s250 x0 K cs):fn 250 [.pointer (some x0)] K cs:=fO (an:=⟨[],[]⟩) Tryz.func250 h
@[reducible] def s324 (x0:Addr) (x1:ByteArray) (K:Value→SP):SP:=
 ldI .i64 3 (x0.add 0) fun n1=>st 382 (x0) (.agg (.mk [.int .i64 n1,.string x1,.int .i64 0,.int .i64 0,.int .i64 0]))<|K (undef)
theorem f324 {x0:Addr} {x1:ByteArray} (h:s324 x0 x1 K cs):fn 324 [.pointer (some x0),.string x1] K cs:=fO (an:=⟨[],[]⟩) Tryz.func324 h
@[reducible] def s329 (x0:Addr) (x1:Int) (K:Value→SP):SP:=
 Jn (fun _=>ldI .i64 3 (x0.add 2) fun n3=>ldI .i64 3 (x0.add 2) fun n5=>ldI .i64 3 (x0.add 3) fun n7=>ldI .i64 3 (x0.add 2) fun n9=>st 3 (x0.add 2) (.int .i64 (w64 (n5+if w64 (n7-n9)<if 0>x1 then 0 else x1 then w64 (n7-n9)else if 0>x1 then 0 else x1)))<|Jn (fun _=>ldS 9 (x0.add 1) fun s14=>ldI .i64 3 (x0.add 2) fun n16=>qy (Instr.sliceAt 9 (.string s14) (some (.int .i64 n3)) (some (.int .i64 n16)) none)<|fun v17=>unS v17 fun s18=>K (.string s18))<|fun j12=>ldI .i64 3 (x0.add 2) fun n20=>ldI .i64 3 (x0.add 3) fun n22=>br (decide (n20<n22)) (ldI .i64 3 (x0.add 4) fun n24=>st 3 (x0.add 4) (.int .i64 (w64 (n24+1)))<|j12 [])<|j12 [])<|fun j1=>ldI .i64 3 (x0.add 3) fun n27=>ldI .i64 3 (x0.add 2) fun n29=>br (n27 == n29) (K (.string (bs [])))<|j1 []
theorem f329 {x0:Addr} {x1:Int} (h:s329 x0 x1 K cs):fn 329 [.pointer (some x0),.int .i64 x1] K cs:=fO (an:=⟨[],[(3,[]),(7,[])]⟩) Tryz.func329 h
@[reducible] def s334 (x0:Addr) (K:Value→SP):SP:=
 ldI .i64 3 (x0.add 3) fun n1=>ldI .i64 3 (x0.add 2) fun n3=>K (.int .i64 (w64 (n1-n3)))
theorem f334 {x0:Addr} (h:s334 x0 K cs):fn 334 [.pointer (some x0)] K cs:=fO (an:=⟨[],[]⟩) Tryz.func334 h
@[reducible] def s417 (x0:Addr) (K:Value→SP):SP:=
 Jn (fun _=>ldS 9 (x0.add 1) fun s3=>ldI .i64 3 (x0.add 3) fun n5=>ldI .i64 3 (x0.add 0) fun n7=>ldI .i64 3 (x0.add 3) fun n9=>st 3 (x0.add 3) (.int .i64 (w64 (n9+if n7<w64 ((s3.size:Int)-n5)then n7 else w64 ((s3.size:Int)-n5))))<|K (.int .i64 (if n7<w64 ((s3.size:Int)-n5)then n7 else w64 ((s3.size:Int)-n5))))<|fun j1=>ldI .i64 3 (x0.add 3) fun n12=>ldI .i64 3 (x0.add 2) fun n14=>br (decide (n12>n14)) (K (.int .i64 0))<|j1 []
theorem f417 {x0:Addr} (h:s417 x0 K cs):fn 417 [.pointer (some x0)] K cs:=fO (an:=⟨[],[(3,[])]⟩) Tryz.func417 h
@[reducible] def s138 (x0:Int) (K:Value→SP):SP:=
 an (sm (Instr.makeSlice 34 (.int .i64 (if 1024<if 1>x0 then 1 else x0 then 1024 else if 1>x0 then 1 else x0)) (.int .i64 (if 1024<if 1>x0 then 1 else x0 then 1024 else if 1>x0 then 1 else x0)))<|fun v0=>unL v0 fun a1 n2 c3=>an (sm (Instr.makeSlice 34 (.int .i64 (if 1024<if 1>x0 then 1 else x0 then 1024 else if 1>x0 then 1 else x0)) (.int .i64 (if 1024<if 1>x0 then 1 else x0 then 1024 else if 1>x0 then 1 else x0)))<|fun v4=>unL v4 fun a5 n6 c7=>sm (Instr.makeSlice 348 (.int .i64 (if 1024<if 1>x0 then 1 else x0 then 1024 else if 1>x0 then 1 else x0)) (.int .i64 (if 1024<if 1>x0 then 1 else x0 then 1024 else if 1>x0 then 1 else x0)))<|fun v8=>unL v8 fun a9 n10 c11=>box 350 (.agg (.mk [.slice a1 n2 c3,.slice a5 n6 c7,.slice a9 n10 c11,.int .i64 (-1),.int .i64 (-1),.int .i64 0])) fun a13=>K (.pointer (some a13)))<|sm (Instr.makeSlice 348 (.int .i64 (if 1024<if 1>x0 then 1 else x0 then 1024 else if 1>x0 then 1 else x0)) (.int .i64 (if 1024<if 1>x0 then 1 else x0 then 1024 else if 1>x0 then 1 else x0)))<|fun v14=>unL v14 fun a15 n16 c17=>sm (Instr.makeSlice 34 (.int .i64 (if 1024<if 1>x0 then 1 else x0 then 1024 else if 1>x0 then 1 else x0)) (.int .i64 (if 1024<if 1>x0 then 1 else x0 then 1024 else if 1>x0 then 1 else x0)))<|fun v18=>unL v18 fun a19 n20 c21=>box 350 (.agg (.mk [.slice a1 n2 c3,.slice a19 n20 c21,.slice a15 n16 c17,.int .i64 (-1),.int .i64 (-1),.int .i64 0])) fun a23=>K (.pointer (some a23)))<|an (sm (Instr.makeSlice 34 (.int .i64 (if 1024<if 1>x0 then 1 else x0 then 1024 else if 1>x0 then 1 else x0)) (.int .i64 (if 1024<if 1>x0 then 1 else x0 then 1024 else if 1>x0 then 1 else x0)))<|fun v24=>unL v24 fun a25 n26 c27=>an (sm (Instr.makeSlice 34 (.int .i64 (if 1024<if 1>x0 then 1 else x0 then 1024 else if 1>x0 then 1 else x0)) (.int .i64 (if 1024<if 1>x0 then 1 else x0 then 1024 else if 1>x0 then 1 else x0)))<|fun v28=>unL v28 fun a29 n30 c31=>sm (Instr.makeSlice 348 (.int .i64 (if 1024<if 1>x0 then 1 else x0 then 1024 else if 1>x0 then 1 else x0)) (.int .i64 (if 1024<if 1>x0 then 1 else x0 then 1024 else if 1>x0 then 1 else x0)))<|fun v32=>unL v32 fun a33 n34 c35=>box 350 (.agg (.mk [.slice a29 n30 c31,.slice a25 n26 c27,.slice a33 n34 c35,.int .i64 (-1),.int .i64 (-1),.int .i64 0])) fun a37=>K (.pointer (some a37)))<|sm (Instr.makeSlice 348 (.int .i64 (if 1024<if 1>x0 then 1 else x0 then 1024 else if 1>x0 then 1 else x0)) (.int .i64 (if 1024<if 1>x0 then 1 else x0 then 1024 else if 1>x0 then 1 else x0)))<|fun v38=>unL v38 fun a39 n40 c41=>sm (Instr.makeSlice 34 (.int .i64 (if 1024<if 1>x0 then 1 else x0 then 1024 else if 1>x0 then 1 else x0)) (.int .i64 (if 1024<if 1>x0 then 1 else x0 then 1024 else if 1>x0 then 1 else x0)))<|fun v42=>unL v42 fun a43 n44 c45=>box 350 (.agg (.mk [.slice a43 n44 c45,.slice a25 n26 c27,.slice a39 n40 c41,.int .i64 (-1),.int .i64 (-1),.int .i64 0])) fun a47=>K (.pointer (some a47)))<|sm (Instr.makeSlice 348 (.int .i64 (if 1024<if 1>x0 then 1 else x0 then 1024 else if 1>x0 then 1 else x0)) (.int .i64 (if 1024<if 1>x0 then 1 else x0 then 1024 else if 1>x0 then 1 else x0)))<|fun v48=>unL v48 fun a49 n50 c51=>an (sm (Instr.makeSlice 34 (.int .i64 (if 1024<if 1>x0 then 1 else x0 then 1024 else if 1>x0 then 1 else x0)) (.int .i64 (if 1024<if 1>x0 then 1 else x0 then 1024 else if 1>x0 then 1 else x0)))<|fun v52=>unL v52 fun a53 n54 c55=>sm (Instr.makeSlice 34 (.int .i64 (if 1024<if 1>x0 then 1 else x0 then 1024 else if 1>x0 then 1 else x0)) (.int .i64 (if 1024<if 1>x0 then 1 else x0 then 1024 else if 1>x0 then 1 else x0)))<|fun v56=>unL v56 fun a57 n58 c59=>box 350 (.agg (.mk [.slice a53 n54 c55,.slice a57 n58 c59,.slice a49 n50 c51,.int .i64 (-1),.int .i64 (-1),.int .i64 0])) fun a61=>K (.pointer (some a61)))<|sm (Instr.makeSlice 34 (.int .i64 (if 1024<if 1>x0 then 1 else x0 then 1024 else if 1>x0 then 1 else x0)) (.int .i64 (if 1024<if 1>x0 then 1 else x0 then 1024 else if 1>x0 then 1 else x0)))<|fun v62=>unL v62 fun a63 n64 c65=>sm (Instr.makeSlice 34 (.int .i64 (if 1024<if 1>x0 then 1 else x0 then 1024 else if 1>x0 then 1 else x0)) (.int .i64 (if 1024<if 1>x0 then 1 else x0 then 1024 else if 1>x0 then 1 else x0)))<|fun v66=>unL v66 fun a67 n68 c69=>box 350 (.agg (.mk [.slice a67 n68 c69,.slice a63 n64 c65,.slice a49 n50 c51,.int .i64 (-1),.int .i64 (-1),.int .i64 0])) fun a71=>K (.pointer (some a71))
theorem f138 {x0:Int} (h:s138 x0 K cs):fn 138 [.int .i64 x0] K cs:=fO (an:=⟨[],[]⟩) Tryz.func138 h
@[reducible] def s244 (x0:Addr) (K:Value→SP):SP:=
 ldI .i64 3 (x0.add 5) fun n1=>br (n1 == 0) (K (.tuple (Array.mk [.int .i64 0,.bool false])))<|ldI .i64 3 (x0.add 3) fun n3=>fn 331 [.pointer (some x0),.int .i64 n3]<|fun v4=>unT v4 fun _=>K (.tuple (Array.mk [.int .i64 n3,.bool true]))
theorem f244 {x0:Addr} (h:s244 x0 K cs):fn 244 [.pointer (some x0)] K cs:=fO (an:=⟨[],[]⟩) Tryz.func244 h
@[reducible] def s259 (x0:Addr) (x1:Int) (K:Value→SP):SP:=
 Jn (fun _=>ldL 348 (x0.add 2) fun a3 n4 c5=>ldL 34 (x0.add 0) fun a7 n8 c9=>ldL 34 (x0.add 1) fun a11 n12 c13=>ldI .i64 3 (x0.add 4) fun n15=>ix 348 (.slice a3 n4 c5) (x1) fun a17=>st 4 (a17) (.bool true)<|ix 34 (.slice a7 n8 c9) (x1) fun a20=>st 3 (a20) (.int .i64 (-1))<|ix 34 (.slice a11 n12 c13) (x1) fun a23=>st 3 (a23) (.int .i64 n15)<|Jn (fun _=>st 3 (x0.add 4) (.int .i64 x1)<|ldI .i64 3 (x0.add 5) fun n29=>st 3 (x0.add 5) (.int .i64 (w64 (n29+1)))<|K (.bool true))<|fun j26=>ldI .i64 3 (x0.add 4) fun n32=>br (n32 == -1) (st 3 (x0.add 3) (.int .i64 x1)<|j26 [])<|ldL 34 (x0.add 0) fun a35 n36 c37=>ldI .i64 3 (x0.add 4) fun n39=>ix 34 (.slice a35 n36 c37) (n39) fun a41=>st 3 (a41) (.int .i64 x1)<|j26 [])<|fun j1=>fn 339 [.pointer (some x0),.int .i64 x1]<|fun v43=>unB v43 fun b44=>br (!b44) (K (.bool false))<|ldL 348 (x0.add 2) fun a46 n47 c48=>ix 348 (.slice a46 n47 c48) (x1) fun a50=>ldB 4 (a50) fun b52=>br (b52) (K (.bool false))<|j1 []
theorem f259 {x0:Addr} {x1:Int} (h:s259 x0 x1 K cs):fn 259 [.pointer (some x0),.int .i64 x1] K cs:=fO (an:=⟨[],[(3,[]),(7,[])]⟩) Tryz.func259 h
@[reducible] def s331 (x0:Addr) (x1:Int) (K:Value→SP):SP:=
 ldL 34 (x0.add 1) fun a1 n2 c3=>ix 34 (.slice a1 n2 c3) (x1) fun a5=>ldI .i64 3 (a5) fun n7=>ldL 34 (x0.add 0) fun a9 n10 c11=>ix 34 (.slice a9 n10 c11) (x1) fun a13=>ldI .i64 3 (a13) fun n15=>Jn (fun _=>Jn (fun _=>ldL 348 (x0.add 2) fun a21 n22 c23=>ix 348 (.slice a21 n22 c23) (x1) fun a25=>st 4 (a25) (.bool false)<|ldI .i64 3 (x0.add 5) fun n28=>st 3 (x0.add 5) (.int .i64 (w64 (n28-1)))<|K (undef))<|fun j19=>br (n15 == -1) (st 3 (x0.add 4) (.int .i64 n7)<|j19 [])<|ldL 34 (x0.add 1) fun a32 n33 c34=>ix 34 (.slice a32 n33 c34) (n15) fun a36=>st 3 (a36) (.int .i64 n7)<|j19 [])<|fun j17=>br (n7 == -1) (st 3 (x0.add 3) (.int .i64 n15)<|j17 [])<|ldL 34 (x0.add 0) fun a40 n41 c42=>ix 34 (.slice a40 n41 c42) (n7) fun a44=>st 3 (a44) (.int .i64 n15)<|j17 []
theorem f331 {x0:Addr} {x1:Int} (h:s331 x0 x1 K cs):fn 331 [.pointer (some x0),.int .i64 x1] K cs:=fO (an:=⟨[],[(4,[]),(7,[])]⟩) Tryz.func331 h
@[reducible] def s338 (x0:Addr) (x1:Int) (K:Value→SP):SP:=
 fn 339 [.pointer (some x0),.int .i64 x1]<|fun v0=>unB v0 fun b1=>br (!b1) (K (.bool false))<|ldL 348 (x0.add 2) fun a3 n4 c5=>ix 348 (.slice a3 n4 c5) (x1) fun a7=>ldB 4 (a7) fun b9=>br (!b9) (K (.bool false))<|fn 331 [.pointer (some x0),.int .i64 x1]<|fun v10=>unT v10 fun _=>K (.bool true)
theorem f338 {x0:Addr} {x1:Int} (h:s338 x0 x1 K cs):fn 338 [.pointer (some x0),.int .i64 x1] K cs:=fO (an:=⟨[],[]⟩) Tryz.func338 h
@[reducible] def s339 (x0:Addr) (x1:Int) (K:Value→SP):SP:=
 br (decide (x1≥0)) (ldL 348 (x0.add 2) fun _ n2 _=>K (.bool (decide (x1<(n2:Int)))))<|K (.bool false)
theorem f339 {x0:Addr} {x1:Int} (h:s339 x0 x1 K cs):fn 339 [.pointer (some x0),.int .i64 x1] K cs:=fO (an:=⟨[],[]⟩) Tryz.func339 h
@[reducible] def s139 (x0:Int) (x1:Int) (K:Value→SP):SP:=
 sm (Instr.makeSlice 34 (.int .i64 (if 1024<if 1>x0 then 1 else x0 then 1024 else if 1>x0 then 1 else x0)) (.int .i64 (if 1024<if 1>x0 then 1 else x0 then 1024 else if 1>x0 then 1 else x0)))<|fun v0=>unL v0 fun a1 n2 c3=>box 352 (.agg (.mk [.slice a1 n2 c3,.int .i64 (if 1000000<if 1>x1 then 1 else x1 then 1000000 else if 1>x1 then 1 else x1)])) fun a5=>K (.pointer (some a5))
theorem f139 {x0 x1:Int} (h:s139 x0 x1 K cs):fn 139 [.int .i64 x0,.int .i64 x1] K cs:=fO (an:=⟨[],[]⟩) Tryz.func139 h
@[reducible] def s245 (x0:Addr) (x1:Int) (K:Value→SP):SP:=
 fn 332 [.pointer (some x0),.int .i64 x1]<|fun v0=>unB v0 fun b1=>br (!b1) (K (.int .i64 0))<|ldL 34 (x0.add 0) fun a3 n4 c5=>ldL 34 (x0.add 0) fun a7 n8 c9=>ix 34 (.slice a7 n8 c9) (x1) fun a11=>ldI .i64 3 (a11) fun n13=>ldI .i64 3 (x0.add 1) fun n15=>ix 34 (.slice a3 n4 c5) (x1) fun a17=>st 3 (a17) (.int .i64 (if 2000000000<w64 (n13+n15)then 2000000000 else w64 (n13+n15)))<|ldL 34 (x0.add 0) fun a20 n21 c22=>ix 34 (.slice a20 n21 c22) (x1) fun a24=>ldI .i64 3 (a24) fun n26=>K (.int .i64 n26)
theorem f245 {x0:Addr} {x1:Int} (h:s245 x0 x1 K cs):fn 245 [.pointer (some x0),.int .i64 x1] K cs:=fO (an:=⟨[],[]⟩) Tryz.func245 h
@[reducible] def s247 (x0:Addr) (x1:Int) (x2:Int) (K:Value→SP):SP:=
 Jn (fun _=>ldL 34 (x0.add 0) fun a3 n4 c5=>ix 34 (.slice a3 n4 c5) (x1) fun a7=>ldI .i64 3 (a7) fun n9=>ix 34 (.slice a3 n4 c5) (x1) fun a11=>st 3 (a11) (.int .i64 (w64 (n9-if 0>x2 then 0 else x2)))<|K (.bool true))<|fun j1=>fn 332 [.pointer (some x0),.int .i64 x1]<|fun v13=>unB v13 fun b14=>br (!b14) (K (.bool false))<|ldL 34 (x0.add 0) fun a16 n17 c18=>ix 34 (.slice a16 n17 c18) (x1) fun a20=>ldI .i64 3 (a20) fun n22=>br (decide (n22<if 0>x2 then 0 else x2)) (K (.bool false))<|j1 []
theorem f247 {x0:Addr} {x1 x2:Int} (h:s247 x0 x1 x2 K cs):fn 247 [.pointer (some x0),.int .i64 x1,.int .i64 x2] K cs:=fO (an:=⟨[],[(4,[])]⟩) Tryz.func247 h
@[reducible] def s260 (x0:Addr) (x1:Int) (K:Value→SP):SP:=
 fn 332 [.pointer (some x0),.int .i64 x1]<|fun v0=>unB v0 fun b1=>br (!b1) (K (.int .i64 0))<|ldL 34 (x0.add 0) fun a3 n4 c5=>ix 34 (.slice a3 n4 c5) (x1) fun a7=>ldI .i64 3 (a7) fun n9=>ldL 34 (x0.add 0) fun a11 n12 c13=>ix 34 (.slice a11 n12 c13) (x1) fun a15=>st 3 (a15) (.int .i64 0)<|K (.int .i64 n9)
theorem f260 {x0:Addr} {x1:Int} (h:s260 x0 x1 K cs):fn 260 [.pointer (some x0),.int .i64 x1] K cs:=fO (an:=⟨[],[]⟩) Tryz.func260 h
@[reducible] def s332 (x0:Addr) (x1:Int) (K:Value→SP):SP:=
 br (decide (x1≥0)) (ldL 34 (x0.add 0) fun _ n2 _=>K (.bool (decide (x1<(n2:Int)))))<|K (.bool false)
theorem f332 {x0:Addr} {x1:Int} (h:s332 x0 x1 K cs):fn 332 [.pointer (some x0),.int .i64 x1] K cs:=fO (an:=⟨[],[]⟩) Tryz.func332 h
@[reducible] def s81 (x0:Int) (K:Value→SP):SP:=
 sm (Instr.makeSlice 34 (.int .i64 (if 1024<if 1>x0 then 1 else x0 then 1024 else if 1>x0 then 1 else x0)) (.int .i64 (if 1024<if 1>x0 then 1 else x0 then 1024 else if 1>x0 then 1 else x0)))<|fun v0=>unL v0 fun a1 n2 c3=>box 266 (.agg (.mk [.slice none 0 0,.slice a1 n2 c3])) fun a5=>ldL 34 (a5.add 1) fun _ n8 _=>Lp (fun self10 l11=>unI .i64 (l11.headD undef) fun i12=>br (decide (i12<(n8:Int))) (ldL 34 (a5.add 1) fun a14 n15 c16=>ix 34 (.slice a14 n15 c16) (i12) fun a18=>st 3 (a18) (.int .i64 (-1))<|self10 [.int .i64 (w64 (i12+1))])<|K (.pointer (some a5))) [.int .i64 0]
theorem f81 {x0:Int} (h:s81 x0 K cs):fn 81 [.int .i64 x0] K cs:=fO (an:=⟨[(3,[(16,.int .i64)])],[]⟩) Tryz.func81 h
@[reducible] def s95 (x0:Addr) (x1:Int) (K:Value→SP):SP:=
 fn 157 [.pointer (some x0)]<|fun v0=>unT v0 fun t1=>ex (0<t1.length)<|unA (t1.getD 0 undef) fun a2=>ex (1<t1.length)<|unB (t1.getD 1 undef) fun b3=>new 191 fun a5=>st 191 (a5) (.agg (.mk a2))<|Lp (fun self7 l8=>unL (l8.headD undef) fun a9 n10 c11=>unQ (l8.tail.headD undef) fun q12=>unB (l8.tail.tail.headD undef) fun b13=>Jn (fun _=>fn 159 [.pointer (some x0),.int .i64 0]<|fun v16=>unT v16 fun _=>ldA 191 (q12) fun a19=>sm (Instr.buildSlice 75 1 (Array.mk [(0,.agg (.mk a19))]))<|fun v20=>unL v20 fun a21 n22 c23=>sm (Builtin.append_ (Array.mk [75,75]) 75 (Array.mk [.slice a9 n10 c11,.slice a21 n22 c23]))<|fun v24=>unL v24 fun a25 n26 c27=>ldA 191 (q12) fun a29=>new 191 fun a31=>st 191 (a31) (.agg (.mk a29))<|fn 157 [.pointer (some x0)]<|fun v33=>unT v33 fun t34=>ex (0<t34.length)<|unA (t34.getD 0 undef) fun a35=>ex (1<t34.length)<|unB (t34.getD 1 undef) fun b36=>st 191 (a31) (.agg (.mk a35))<|self7 [.slice a25 n26 c27,.pointer (some a31),.bool b36])<|fun j15=>br (b13) (ldI .i64 2 (q12.add 0) fun n39=>fn 158 [.int .i64 n39,.int .i64 x1]<|fun v40=>unB v40 fun b41=>br (b41) (j15 [])<|K (.slice a9 n10 c11))<|K (.slice a9 n10 c11)) [.slice none 0 0,.pointer (some a5),.bool b3]
theorem f95 {x0:Addr} {x1:Int} (h:s95 x0 x1 K cs):fn 95 [.pointer (some x0),.int .i64 x1] K cs:=fO (an:=⟨[(3,[(5,.sl),(6,.adr),(7,.bool)])],[(5,[])]⟩) Tryz.func95 h
@[reducible] def s157 (x0:Addr) (K:Value→SP):SP:=
 new 191 fun a1=>Jn (fun _=>ldL 75 (x0.add 0) fun a5 n6 c7=>ix 75 (.slice a5 n6 c7) (0) fun a9=>ldA 191 (a9) fun a11=>st 191 (a1) (.agg (.mk a11))<|qy (loadVar 191 a1)<|fun v13=>unA v13 fun a14=>K (.tuple (Array.mk [.agg (.mk a14),.bool true])))<|fun j3=>ldL 75 (x0.add 0) fun _ n17 _=>br ((n17:Int) == 0) (st 191 (a1) (.agg (.mk [.int .i64 0,.int .i64 0]))<|qy (loadVar 191 a1)<|fun v20=>unA v20 fun a21=>K (.tuple (Array.mk [.agg (.mk a21),.bool false])))<|j3 []
theorem f157 {x0:Addr} (h:s157 x0 K cs):fn 157 [.pointer (some x0)] K cs:=fO (an:=⟨[],[(3,[])]⟩) Tryz.func157 h
@[reducible] def s159 (x0:Addr) (x1:Int) (K:Value→SP):SP:=
 ldL 75 (x0.add 0) fun _ n2 _=>ldL 34 (x0.add 1) fun a5 n6 c7=>ldL 75 (x0.add 0) fun a9 n10 c11=>ix 75 (.slice a9 n10 c11) (x1) fun a13=>ldI .i64 3 (a13.add 1) fun n15=>ix 34 (.slice a5 n6 c7) (n15) fun a17=>st 3 (a17) (.int .i64 (-1))<|ldL 75 (x0.add 0) fun a20 n21 c22=>ix 75 (.slice a20 n21 c22) (w64 ((n2:Int)-1)) fun a24=>ldA 191 (a24) fun a26=>new 191 fun a28=>st 191 (a28) (.agg (.mk a26))<|ldL 75 (x0.add 0) fun a31 n32 c33=>qy (Instr.sliceAt 75 (.slice a31 n32 c33) none (some (.int .i64 (w64 ((n2:Int)-1)))) none)<|fun v34=>unL v34 fun a35 n36 c37=>st 75 (x0.add 0) (.slice a35 n36 c37)<|br (decide (x1<w64 ((n2:Int)-1))) (ldA 191 (a28) fun a40=>fn 241 [.pointer (some x0),.int .i64 x1,.agg (.mk a40)]<|fun v41=>unT v41 fun _=>fn 242 [.pointer (some x0),.int .i64 x1]<|fun v43=>unT v43 fun _=>K (undef))<|K (undef)
theorem f159 {x0:Addr} {x1:Int} (h:s159 x0 x1 K cs):fn 159 [.pointer (some x0),.int .i64 x1] K cs:=fO (an:=⟨[],[]⟩) Tryz.func159 h
@[reducible] def s166 (x0:Addr) (x1:Int) (x2:Int) (K:Value→SP):SP:=
 fn 261 [.pointer (some x0),.int .i64 x1]<|fun v0=>unB v0 fun b1=>br (!b1) (K (.bool false))<|fn 228 [.int .i64 x2]<|fun v2=>unI .i64 v2 fun n3=>new 191 fun a5=>st 191 (a5) (.agg (.mk [.int .i64 n3,.int .i64 x1]))<|ldL 34 (x0.add 1) fun a8 n9 c10=>ix 34 (.slice a8 n9 c10) (x1) fun a12=>ldI .i64 3 (a12) fun n14=>br (x2 == 9223372036854775807) (br (n14 != -1) (fn 159 [.pointer (some x0),.int .i64 n14]<|fun v15=>unT v15 fun _=>K (.bool true))<|br (x2 == 9223372036854775807) (K (.bool true))<|br (n14 == -1) (ldL 75 (x0.add 0) fun a18 n19 c20=>ldA 191 (a5) fun a22=>sm (Instr.buildSlice 75 1 (Array.mk [(0,.agg (.mk a22))]))<|fun v23=>unL v23 fun a24 n25 c26=>stb (Instr.loadAt 75 (.pointer (some (x0.add 0)))) (.slice a18 n19 c20)<|sm (Builtin.append_ (Array.mk [75,75]) 75 (Array.mk [.slice a18 n19 c20,.slice a24 n25 c26]))<|fun v27=>unL v27 fun a28 n29 c30=>st 75 (x0.add 0) (.slice a28 n29 c30)<|ldL 75 (x0.add 0) fun _ n34 _=>fn 262 [.pointer (some x0),.int .i64 (w64 ((n34:Int)-1))]<|fun v36=>unT v36 fun _=>K (.bool true))<|ldL 75 (x0.add 0) fun a39 n40 c41=>ldA 191 (a5) fun a43=>ix 75 (.slice a39 n40 c41) (n14) fun a45=>st 191 (a45) (.agg (.mk a43))<|fn 242 [.pointer (some x0),.int .i64 n14]<|fun v47=>unT v47 fun _=>K (.bool true))<|br (x2 == 9223372036854775807) (K (.bool true))<|br (n14 == -1) (ldL 75 (x0.add 0) fun a50 n51 c52=>ldA 191 (a5) fun a54=>sm (Instr.buildSlice 75 1 (Array.mk [(0,.agg (.mk a54))]))<|fun v55=>unL v55 fun a56 n57 c58=>stb (Instr.loadAt 75 (.pointer (some (x0.add 0)))) (.slice a50 n51 c52)<|sm (Builtin.append_ (Array.mk [75,75]) 75 (Array.mk [.slice a50 n51 c52,.slice a56 n57 c58]))<|fun v59=>unL v59 fun a60 n61 c62=>st 75 (x0.add 0) (.slice a60 n61 c62)<|ldL 75 (x0.add 0) fun _ n66 _=>fn 262 [.pointer (some x0),.int .i64 (w64 ((n66:Int)-1))]<|fun v68=>unT v68 fun _=>K (.bool true))<|ldL 75 (x0.add 0) fun a71 n72 c73=>ldA 191 (a5) fun a75=>ix 75 (.slice a71 n72 c73) (n14) fun a77=>st 191 (a77) (.agg (.mk a75))<|fn 242 [.pointer (some x0),.int .i64 n14]<|fun v79=>unT v79 fun _=>K (.bool true)
theorem f166 {x0:Addr} {x1 x2:Int} (h:s166 x0 x1 x2 K cs):fn 166 [.pointer (some x0),.int .i64 x1,.int .i64 x2] K cs:=fO (an:=⟨[],[]⟩) Tryz.func166 h
@[reducible] def s173 (x0:List Value) (x1:List Value) (K:Value→SP):SP:=
 box 191 (.agg (.mk x0)) fun a1=>box 191 (.agg (.mk x1)) fun a3=>ldI .i64 2 (a1.add 0) fun n5=>ldI .i64 2 (a3.add 0) fun n7=>ldI .i64 3 (a1.add 1) fun n9=>ldI .i64 3 (a3.add 1) fun n11=>fn 268 [.int .i64 n5,.int .i64 n7]<|fun v12=>unI .i64 v12 fun n13=>stb (Instr.loadAt 3 (.pointer (some (a3.add 1)))) (.int .i64 n11)<|stb (Instr.loadAt 3 (.pointer (some (a1.add 1)))) (.int .i64 n9)<|fn 269 [.int .i64 n9,.int .i64 n11]<|fun v14=>unI .i64 v14 fun n15=>sm (Instr.buildSlice 34 2 (Array.mk [(0,.int .i64 n13),(1,.int .i64 n15)]))<|fun v16=>unL v16 fun a17 n18 c19=>fn 267 [.slice a17 n18 c19]<|fun v20=>unI .i64 v20 fun n21=>K (.int .i64 n21)
theorem f173 {x0 x1:List Value} (h:s173 x0 x1 K cs):fn 173 [.agg (.mk x0),.agg (.mk x1)] K cs:=fO (an:=⟨[],[]⟩) Tryz.func173 h
@[reducible] def s241 (x0:Addr) (x1:Int) (x2:List Value) (K:Value→SP):SP:=
 box 191 (.agg (.mk x2)) fun a1=>ldL 75 (x0.add 0) fun a3 n4 c5=>ldA 191 (a1) fun a7=>ix 75 (.slice a3 n4 c5) (x1) fun a9=>st 191 (a9) (.agg (.mk a7))<|ldL 34 (x0.add 1) fun a12 n13 c14=>ldI .i64 3 (a1.add 1) fun n16=>ix 34 (.slice a12 n13 c14) (n16) fun a18=>st 3 (a18) (.int .i64 x1)<|K (undef)
theorem f241 {x0:Addr} {x1:Int} {x2:List Value} (h:s241 x0 x1 x2 K cs):fn 241 [.pointer (some x0),.int .i64 x1,.agg (.mk x2)] K cs:=fO (an:=⟨[],[]⟩) Tryz.func241 h
@[reducible] def s242 (x0:Addr) (x1:Int) (K:Value→SP):SP:=
 ldL 75 (x0.add 0) fun a1 n2 c3=>ix 75 (.slice a1 n2 c3) (x1) fun a5=>ldI .i64 3 (a5.add 1) fun n7=>fn 262 [.pointer (some x0),.int .i64 x1]<|fun v8=>unT v8 fun _=>ldL 34 (x0.add 1) fun a11 n12 c13=>ix 34 (.slice a11 n12 c13) (n7) fun a15=>ldI .i64 3 (a15) fun n17=>fn 330 [.pointer (some x0),.int .i64 n17]<|fun v18=>unT v18 fun _=>K (undef)
theorem f242 {x0:Addr} {x1:Int} (h:s242 x0 x1 K cs):fn 242 [.pointer (some x0),.int .i64 x1] K cs:=fO (an:=⟨[],[]⟩) Tryz.func242 h
@[reducible] def s258 (x0:Addr) (x1:Int) (K:Value→SP):SP:=
 Jn (fun _=>ldL 34 (x0.add 1) fun a3 n4 c5=>ix 34 (.slice a3 n4 c5) (x1) fun a7=>ldI .i64 3 (a7) fun n9=>fn 159 [.pointer (some x0),.int .i64 n9]<|fun v10=>unT v10 fun _=>K (.bool true))<|fun j1=>fn 261 [.pointer (some x0),.int .i64 x1]<|fun v12=>unB v12 fun b13=>br (!b13) (K (.bool false))<|ldL 34 (x0.add 1) fun a15 n16 c17=>ix 34 (.slice a15 n16 c17) (x1) fun a19=>ldI .i64 3 (a19) fun n21=>br (n21 == -1) (K (.bool false))<|j1 []
theorem f258 {x0:Addr} {x1:Int} (h:s258 x0 x1 K cs):fn 258 [.pointer (some x0),.int .i64 x1] K cs:=fO (an:=⟨[],[(3,[])]⟩) Tryz.func258 h
@[reducible] def s261 (x0:Addr) (x1:Int) (K:Value→SP):SP:=
 br (decide (x1≥0)) (ldL 34 (x0.add 1) fun _ n2 _=>K (.bool (decide (x1<(n2:Int)))))<|K (.bool false)
theorem f261 {x0:Addr} {x1:Int} (h:s261 x0 x1 K cs):fn 261 [.pointer (some x0),.int .i64 x1] K cs:=fO (an:=⟨[],[]⟩) Tryz.func261 h
@[reducible] def s262 (x0:Addr) (x1:Int) (K:Value→SP):SP:=
 ldL 75 (x0.add 0) fun a1 n2 c3=>ix 75 (.slice a1 n2 c3) (x1) fun a5=>ldA 191 (a5) fun a7=>new 191 fun a9=>st 191 (a9) (.agg (.mk a7))<|Lp (fun self11 l12=>unI .i64 (l12.headD undef) fun i13=>br (decide (i13>0)) (ldL 75 (x0.add 0) fun a15 n16 c17=>ix 75 (.slice a15 n16 c17) (w64 ((w64 (i13-1)).tdiv 2)) fun a19=>ldA 191 (a19) fun a21=>ldA 191 (a9) fun a23=>fn 173 [.agg (.mk a21),.agg (.mk a23)]<|fun v24=>unI .i64 v24 fun n25=>br (decide (n25≤0)) (ldA 191 (a9) fun a27=>fn 241 [.pointer (some x0),.int .i64 i13,.agg (.mk a27)]<|fun v28=>unT v28 fun _=>K (undef))<|ldL 75 (x0.add 0) fun a31 n32 c33=>ix 75 (.slice a31 n32 c33) (w64 ((w64 (i13-1)).tdiv 2)) fun a35=>ldA 191 (a35) fun a37=>fn 241 [.pointer (some x0),.int .i64 i13,.agg (.mk a37)]<|fun v38=>unT v38 fun _=>self11 [.int .i64 (w64 ((w64 (i13-1)).tdiv 2))])<|ldA 191 (a9) fun a41=>fn 241 [.pointer (some x0),.int .i64 i13,.agg (.mk a41)]<|fun v42=>unT v42 fun _=>K (undef)) [.int .i64 x1]
theorem f262 {x0:Addr} {x1:Int} (h:s262 x0 x1 K cs):fn 262 [.pointer (some x0),.int .i64 x1] K cs:=fO (an:=⟨[(1,[(1,.int .i64)])],[]⟩) Tryz.func262 h
@[reducible] def s330 (x0:Addr) (x1:Int) (K:Value→SP):SP:=
 ldL 75 (x0.add 0) fun a1 n2 c3=>ix 75 (.slice a1 n2 c3) (x1) fun a5=>ldA 191 (a5) fun a7=>new 191 fun a9=>st 191 (a9) (.agg (.mk a7))<|Lp (fun self11 l12=>unI .i64 (l12.headD undef) fun i13=>ldL 75 (x0.add 0) fun _ n16 _=>br (decide (w64 (w64 (2*i13)+1)≥(n16:Int))) (ldA 191 (a9) fun a19=>fn 241 [.pointer (some x0),.int .i64 i13,.agg (.mk a19)]<|fun v20=>unT v20 fun _=>K (undef))<|Jn (fun l22=>unI .i64 (l22.headD undef) fun i24=>ldA 191 (a9) fun a26=>ldL 75 (x0.add 0) fun a28 n29 c30=>ix 75 (.slice a28 n29 c30) (i24) fun a32=>ldA 191 (a32) fun a34=>fn 173 [.agg (.mk a26),.agg (.mk a34)]<|fun v35=>unI .i64 v35 fun n36=>br (decide (n36≤0)) (ldA 191 (a9) fun a38=>fn 241 [.pointer (some x0),.int .i64 i13,.agg (.mk a38)]<|fun v39=>unT v39 fun _=>K (undef))<|ldL 75 (x0.add 0) fun a42 n43 c44=>ix 75 (.slice a42 n43 c44) (i24) fun a46=>ldA 191 (a46) fun a48=>fn 241 [.pointer (some x0),.int .i64 i13,.agg (.mk a48)]<|fun v49=>unT v49 fun _=>self11 [.int .i64 i24])<|fun j23=>ldL 75 (x0.add 0) fun _ n53 _=>br (decide (w64 (w64 (w64 (2*i13)+1)+1)<(n53:Int))) (ldL 75 (x0.add 0) fun a56 n57 c58=>ix 75 (.slice a56 n57 c58) (w64 (w64 (w64 (2*i13)+1)+1)) fun a60=>ldA 191 (a60) fun a62=>ldL 75 (x0.add 0) fun a64 n65 c66=>ix 75 (.slice a64 n65 c66) (w64 (w64 (2*i13)+1)) fun a68=>ldA 191 (a68) fun a70=>fn 173 [.agg (.mk a62),.agg (.mk a70)]<|fun v71=>unI .i64 v71 fun n72=>br (decide (n72<0)) (j23 [.int .i64 (w64 (w64 (w64 (2*i13)+1)+1))])<|j23 [.int .i64 (w64 (w64 (2*i13)+1))])<|j23 [.int .i64 (w64 (w64 (2*i13)+1))]) [.int .i64 x1]
theorem f330 {x0:Addr} {x1:Int} (h:s330 x0 x1 K cs):fn 330 [.pointer (some x0),.int .i64 x1] K cs:=fO (an:=⟨[(1,[(1,.int .i64)])],[(5,[(5,.int .i64)])]⟩) Tryz.func330 h
@[reducible] def s80 (x0:Int) (x1:Int) (K:Value→SP):SP:=
 fn 138 [.int .i64 x0]<|fun v0=>unP v0 fun p1=>fn 139 [.int .i64 x0,.int .i64 x1]<|fun v2=>unP v2 fun p3=>box 264 (.agg (.mk [.pointer p1,.pointer p3,.int .i64 (-1),.int .i64 0])) fun a5=>K (.pointer (some a5))
theorem f80 {x0 x1:Int} (h:s80 x0 x1 K cs):fn 80 [.int .i64 x0,.int .i64 x1] K cs:=fO (an:=⟨[],[]⟩) Tryz.func80 h
@[reducible] def s160 (x0:Addr) (K:Value→SP):SP:=
 Jn (fun _=>ldP 259 (x0.add 0) fun p3=>fn 244 [.pointer p3]<|fun v4=>unT v4 fun t5=>ex (0<t5.length)<|unI .i64 (t5.getD 0 undef) fun i6=>ex (1<t5.length)<|unB (t5.getD 1 undef) fun b7=>br (!b7) (K (.tuple (Array.mk [.int .i64 0,.bool false])))<|st 3 (x0.add 2) (.int .i64 i6)<|ldI .i64 3 (x0.add 3) fun n10=>st 3 (x0.add 3) (.int .i64 (w64 (n10+1)))<|ldP 261 (x0.add 1) fun p13=>fn 245 [.pointer p13,.int .i64 i6]<|fun v14=>unI .i64 v14 fun _=>K (.tuple (Array.mk [.int .i64 i6,.bool true])))<|fun j1=>fn 243 [.pointer (some x0)]<|fun v16=>unB v16 fun b17=>br (b17) (K (.tuple (Array.mk [.int .i64 0,.bool false])))<|j1 []
theorem f160 {x0:Addr} (h:s160 x0 K cs):fn 160 [.pointer (some x0)] K cs:=fO (an:=⟨[],[(3,[])]⟩) Tryz.func160 h
@[reducible] def s162 (x0:Addr) (x1:Int) (K:Value→SP):SP:=
 fn 243 [.pointer (some x0)]<|fun v0=>unB v0 fun b1=>br (b1) (ldP 261 (x0.add 1) fun p3=>ldI .i64 3 (x0.add 2) fun n5=>fn 247 [.pointer p3,.int .i64 n5,.int .i64 x1]<|fun v6=>unB v6 fun b7=>K (.bool b7))<|K (.bool false)
theorem f162 {x0:Addr} {x1:Int} (h:s162 x0 x1 K cs):fn 162 [.pointer (some x0),.int .i64 x1] K cs:=fO (an:=⟨[],[]⟩) Tryz.func162 h
@[reducible] def s165 (x0:Addr) (x1:Bool) (K:Value→SP):SP:=
 fn 243 [.pointer (some x0)]<|fun v0=>unB v0 fun b1=>br (!b1) (K (.bool false))<|ldI .i64 3 (x0.add 2) fun n3=>st 3 (x0.add 2) (.int .i64 (-1))<|br (x1) (ldP 259 (x0.add 0) fun p6=>fn 259 [.pointer p6,.int .i64 n3]<|fun v7=>unB v7 fun b8=>K (.bool b8))<|ldP 261 (x0.add 1) fun p10=>fn 260 [.pointer p10,.int .i64 n3]<|fun v11=>unI .i64 v11 fun _=>K (.bool true)
theorem f165 {x0:Addr} {x1:Bool} (h:s165 x0 x1 K cs):fn 165 [.pointer (some x0),.bool x1] K cs:=fO (an:=⟨[],[]⟩) Tryz.func165 h
@[reducible] def s234 (x0:Addr) (x1:Int) (K:Value→SP):SP:=
 fn 243 [.pointer (some x0)]<|fun v0=>unB v0 fun b1=>br (b1) (ldI .i64 3 (x0.add 2) fun n3=>br (n3 == x1) (K (.bool false))<|ldP 259 (x0.add 0) fun p5=>fn 259 [.pointer p5,.int .i64 x1]<|fun v6=>unB v6 fun b7=>K (.bool b7))<|ldP 259 (x0.add 0) fun p9=>fn 259 [.pointer p9,.int .i64 x1]<|fun v10=>unB v10 fun b11=>K (.bool b11)
theorem f234 {x0:Addr} {x1:Int} (h:s234 x0 x1 K cs):fn 234 [.pointer (some x0),.int .i64 x1] K cs:=fO (an:=⟨[],[]⟩) Tryz.func234 h
@[reducible] def s243 (x0:Addr) (K:Value→SP):SP:=
 ldI .i64 3 (x0.add 2) fun n1=>K (.bool (n1 != -1))
theorem f243 {x0:Addr} (h:s243 x0 K cs):fn 243 [.pointer (some x0)] K cs:=fO (an:=⟨[],[]⟩) Tryz.func243 h
@[reducible] def s257 (x0:Addr) (x1:Int) (K:Value→SP):SP:=
 Jn (fun _=>ldP 259 (x0.add 0) fun p3=>fn 338 [.pointer p3,.int .i64 x1]<|fun v4=>unB v4 fun b5=>br (!b5) (K (.bool false))<|ldP 261 (x0.add 1) fun p7=>fn 260 [.pointer p7,.int .i64 x1]<|fun v8=>unI .i64 v8 fun _=>K (.bool true))<|fun j1=>fn 243 [.pointer (some x0)]<|fun v10=>unB v10 fun b11=>br (b11) (ldI .i64 3 (x0.add 2) fun n13=>br (n13 == x1) (fn 165 [.pointer (some x0),.bool false]<|fun v14=>unB v14 fun b15=>K (.bool b15))<|j1 [])<|j1 []
theorem f257 {x0:Addr} {x1:Int} (h:s257 x0 x1 K cs):fn 257 [.pointer (some x0),.int .i64 x1] K cs:=fO (an:=⟨[],[(3,[])]⟩) Tryz.func257 h
@[reducible] def s79 (x0:Int) (K:Value→SP):SP:=
 sm (Instr.makeSlice 34 (.int .i64 (if 1024<if 1>x0 then 1 else x0 then 1024 else if 1>x0 then 1 else x0)) (.int .i64 (if 1024<if 1>x0 then 1 else x0 then 1024 else if 1>x0 then 1 else x0)))<|fun v0=>unL v0 fun a1 n2 c3=>sm (Instr.makeMap 88 none)<|fun v4=>unM v4 fun m5=>box 258 (.agg (.mk [.slice a1 n2 c3,.map m5,.int .i64 0])) fun a7=>ldL 34 (a7.add 0) fun _ n10 _=>Lp (fun self12 l13=>unI .i64 (l13.headD undef) fun i14=>br (decide (i14<(n10:Int))) (ldL 34 (a7.add 0) fun a16 n17 c18=>ix 34 (.slice a16 n17 c18) (i14) fun a20=>st 3 (a20) (.int .i64 (-1))<|self12 [.int .i64 (w64 (i14+1))])<|K (.pointer (some a7))) [.int .i64 0]
theorem f79 {x0:Int} (h:s79 x0 K cs):fn 79 [.int .i64 x0] K cs:=fO (an:=⟨[(3,[(17,.int .i64)])],[]⟩) Tryz.func79 h
@[reducible] def s98 (x0:Addr) (K:Value→SP):SP:=
 ldM 88 (x0.add 1) fun m1=>fn 169 [.map m1]<|fun v2=>unV v2 fun w3=>fn 168 [w3]<|fun v4=>unL v4 fun a5 n6 c7=>K (.slice a5 n6 c7)
theorem f98 {x0:Addr} (h:s98 x0 K cs):fn 98 [.pointer (some x0)] K cs:=fO (an:=⟨[],[]⟩) Tryz.func98 h
@[reducible] def s147 (x0:Addr) (K:Value→SP):SP:=
 Jn (fun _=>ldI .i64 3 (x0.add 2) fun n3=>st 3 (x0.add 2) (.int .i64 (w64 (n3+1)))<|ldI .i64 3 (x0.add 2) fun n6=>K (.int .i64 (w64 (n6-1))))<|fun j1=>ldI .i64 3 (x0.add 2) fun n8=>br (decide (n8≥4096)) (K (.int .i64 (-1)))<|j1 []
theorem f147 {x0:Addr} (h:s147 x0 K cs):fn 147 [.pointer (some x0)] K cs:=fO (an:=⟨[],[(3,[])]⟩) Tryz.func147 h
@[reducible] def s148 (x0:Addr) (K:Value→SP):SP:=
 Jn (fun _=>ldL 34 (x0.add 0) fun a3 n4 c5=>fn 227 [.slice a3 n4 c5,.int .i64 (-1)]<|fun v6=>unI .i64 v6 fun n7=>ldI .i64 3 (x0.add 2) fun n9=>ldI .i64 3 (x0.add 2) fun n11=>st 3 (x0.add 2) (.int .i64 (w64 (n11+1)))<|ldL 34 (x0.add 0) fun a14 n15 c16=>ix 34 (.slice a14 n15 c16) (n7) fun a18=>st 3 (a18) (.int .i64 n9)<|ldM 88 (x0.add 1) fun m21=>sm (do Instr.mapUpdate 88 (.map m21) (.int .i64 n9) (.int .i64 n7);pure undef) fun _=>K (.tuple (Array.mk [.int .i64 n9,.int .i64 n7,.bool true])))<|fun j1=>ldI .i64 3 (x0.add 2) fun n24=>br (decide (n24≥4096)) (K (.tuple (Array.mk [.int .i64 0,.int .i64 0,.bool false])))<|ldM 88 (x0.add 1) fun m26=>qy (Builtin.len_ (Array.mk [88]) 3 (Array.mk [.map m26]))<|fun v27=>unI .i64 v27 fun n28=>ldL 34 (x0.add 0) fun _ n31 _=>br (n28 == (n31:Int)) (K (.tuple (Array.mk [.int .i64 0,.int .i64 0,.bool false])))<|j1 []
theorem f148 {x0:Addr} (h:s148 x0 K cs):fn 148 [.pointer (some x0)] K cs:=fO (an:=⟨[],[(3,[])]⟩) Tryz.func148 h
@[reducible] def s225 (x0:Addr) (K:Value→SP):SP:=
 ldI .i64 3 (x0.add 2) fun n1=>K (.int .i64 n1)
theorem f225 {x0:Addr} (h:s225 x0 K cs):fn 225 [.pointer (some x0)] K cs:=fO (an:=⟨[],[]⟩) Tryz.func225 h
@[reducible] def s226 (x0:Addr) (K:Value→SP):SP:=
 ldL 34 (x0.add 0) fun _ n2 _=>ldM 88 (x0.add 1) fun m5=>qy (Builtin.len_ (Array.mk [88]) 3 (Array.mk [.map m5]))<|fun v6=>unI .i64 v6 fun n7=>K (.int .i64 (w64 ((n2:Int)-n7)))
theorem f226 {x0:Addr} (h:s226 x0 K cs):fn 226 [.pointer (some x0)] K cs:=fO (an:=⟨[],[]⟩) Tryz.func226 h
@[reducible] def s235 (x0:Addr) (x1:Int) (K:Value→SP):SP:=
 ldM 88 (x0.add 1) fun m1=>qy (Instr.lookup 88 (.map m1) (.int .i64 x1) true)<|fun v2=>unT v2 fun t3=>ex (0<t3.length)<|unI .i64 (t3.getD 0 undef) fun i4=>ex (1<t3.length)<|unB (t3.getD 1 undef) fun b5=>K (.tuple (Array.mk [.int .i64 i4,.bool b5]))
theorem f235 {x0:Addr} {x1:Int} (h:s235 x0 x1 K cs):fn 235 [.pointer (some x0),.int .i64 x1] K cs:=fO (an:=⟨[],[]⟩) Tryz.func235 h
@[reducible] def s256 (x0:Addr) (x1:Int) (K:Value→SP):SP:=
 fn 235 [.pointer (some x0),.int .i64 x1]<|fun v0=>unT v0 fun t1=>ex (0<t1.length)<|unI .i64 (t1.getD 0 undef) fun i2=>ex (1<t1.length)<|unB (t1.getD 1 undef) fun b3=>br (b3) (ldL 34 (x0.add 0) fun a5 n6 c7=>ix 34 (.slice a5 n6 c7) (i2) fun a9=>st 3 (a9) (.int .i64 (-1))<|ldM 88 (x0.add 1) fun m12=>sm (Builtin.delete_ (Array.mk [88,3]) 0 (Array.mk [.map m12,.int .i64 x1]))<|fun v13=>unV v13 fun _=>K (.bool b3))<|K (.bool b3)
theorem f256 {x0:Addr} {x1:Int} (h:s256 x0 x1 K cs):fn 256 [.pointer (some x0),.int .i64 x1] K cs:=fO (an:=⟨[],[]⟩) Tryz.func256 h
@[reducible] def s150 (K:Value→SP):SP:=
 box 365 (.agg (.mk [.slice none 0 0,.int .i64 0,.int .i64 0,.int .i64 0,.int .i64 0,.bool false])) fun a1=>K (.pointer (some a1))
theorem f150 (h:s150 K cs):fn 150 [] K cs:=fO (an:=⟨[],[]⟩) Tryz.func150 h
@[reducible] def s153 (x0:Addr) (x1:ByteArray) (x2:Bool) (K:Value→SP):SP:=
 Jn (fun _=>Jn (fun _=>ldI .i64 3 (x0.add 2) fun n5=>st 3 (x0.add 2) (.int .i64 (w64 (n5+(x1.size:Int))))<|ldI .i64 3 (x0.add 3) fun n8=>st 3 (x0.add 3) (.int .i64 (w64 (n8+(x1.size:Int))))<|st 4 (x0.add 5) (.bool x2)<|K (.bool true))<|fun j3=>br (!x1.toList == (bs []).toList) (ldL 144 (x0.add 0) fun a12 n13 c14=>sm (Instr.buildSlice 144 1 (Array.mk [(0,.string x1)]))<|fun v15=>unL v15 fun a16 n17 c18=>sm (Builtin.append_ (Array.mk [144,144]) 144 (Array.mk [.slice a12 n13 c14,.slice a16 n17 c18]))<|fun v19=>unL v19 fun a20 n21 c22=>st 144 (x0.add 0) (.slice a20 n21 c22)<|j3 [])<|j3 [])<|fun j1=>ldB 4 (x0.add 5) fun b25=>br (b25) (K (.bool false))<|br (decide ((x1.size:Int)>4096)) (K (.bool false))<|j1 []
theorem f153 {x0:Addr} {x1:ByteArray} {x2:Bool} (h:s153 x0 x1 x2 K cs):fn 153 [.pointer (some x0),.string x1,.bool x2] K cs:=fO (an:=⟨[],[(3,[]),(5,[])]⟩) Tryz.func153 h
@[reducible] def s178 (x0:Addr) (K:Value→SP):SP:=
 ldI .i64 3 (x0.add 2) fun n1=>K (.int .i64 n1)
theorem f178 {x0:Addr} (h:s178 x0 K cs):fn 178 [.pointer (some x0)] K cs:=fO (an:=⟨[],[]⟩) Tryz.func178 h
@[reducible] def s179 (x0:Addr) (K:Value→SP):SP:=
 ldB 4 (x0.add 5) fun b1=>K (.bool b1)
theorem f179 {x0:Addr} (h:s179 x0 K cs):fn 179 [.pointer (some x0)] K cs:=fO (an:=⟨[],[]⟩) Tryz.func179 h
@[reducible] def s181 (x0:Addr) (x1:Int) (K:Value→SP):SP:=
 ldI .i64 3 (x0.add 2) fun n1=>fn 271 [.pointer (some x0),.int .i64 (if n1<if 0>x1 then 0 else x1 then n1 else if 0>x1 then 0 else x1)]<|fun v2=>unS v2 fun s3=>fn 272 [.pointer (some x0),.int .i64 (if n1<if 0>x1 then 0 else x1 then n1 else if 0>x1 then 0 else x1)]<|fun v4=>unT v4 fun _=>ldI .i64 3 (x0.add 4) fun n7=>st 3 (x0.add 4) (.int .i64 (w64 (n7+if n1<if 0>x1 then 0 else x1 then n1 else if 0>x1 then 0 else x1)))<|K (.string s3)
theorem f181 {x0:Addr} {x1:Int} (h:s181 x0 x1 K cs):fn 181 [.pointer (some x0),.int .i64 x1] K cs:=fO (an:=⟨[],[]⟩) Tryz.func181 h
@[reducible] def s238 (x0:Addr) (K:Value→SP):SP:=
 ldB 4 (x0.add 5) fun b1=>br (b1) (ldI .i64 3 (x0.add 2) fun n3=>K (.bool (n3 == 0)))<|K (.bool false)
theorem f238 {x0:Addr} (h:s238 x0 K cs):fn 238 [.pointer (some x0)] K cs:=fO (an:=⟨[],[]⟩) Tryz.func238 h
@[reducible] def s255 (x0:Addr) (K:Value→SP):SP:=
 ldI .i64 3 (x0.add 2) fun n1=>st 144 (x0.add 0) (.slice none 0 0)<|st 3 (x0.add 1) (.int .i64 0)<|st 3 (x0.add 2) (.int .i64 0)<|st 4 (x0.add 5) (.bool true)<|K (.int .i64 n1)
theorem f255 {x0:Addr} (h:s255 x0 K cs):fn 255 [.pointer (some x0)] K cs:=fO (an:=⟨[],[]⟩) Tryz.func255 h
@[reducible] def s271 (x0:Addr) (x1:Int) (K:Value→SP):SP:=
 new 112 fun a1=>ldI .i64 3 (x0.add 1) fun n3=>Lp (fun self4 l5=>unI .i64 (l5.headD undef) fun i6=>unI .i64 (l5.tail.headD undef) fun i7=>unI .i64 (l5.tail.tail.headD undef) fun i8=>br (decide (i6>0)) (ldL 144 (x0.add 0) fun a10 n11 c12=>ix 144 (.slice a10 n11 c12) (i8) fun a14=>ldS 9 (a14) fun s16=>qy (Instr.sliceAt 9 (.string s16) (some (.int .i64 i7)) none none)<|fun v17=>unS v17 fun s18=>qy (Instr.sliceAt 9 (.string s18) none (some (.int .i64 (if(s18.size:Int)<i6 then(s18.size:Int)else i6))) none)<|fun v19=>unS v19 fun s20=>fn 50 [.pointer (some a1),.string s20]<|fun v21=>unT v21 fun _=>self4 [.int .i64 (w64 (i6-(s20.size:Int))),.int .i64 0,.int .i64 (w64 (i8+1))])<|fn 51 [.pointer (some a1)]<|fun v23=>unS v23 fun s24=>K (.string s24)) [.int .i64 x1,.int .i64 n3,.int .i64 0]
theorem f271 {x0:Addr} {x1:Int} (h:s271 x0 x1 K cs):fn 271 [.pointer (some x0),.int .i64 x1] K cs:=fO (an:=⟨[(4,[(1,.int .i64),(6,.int .i64),(7,.int .i64)])],[]⟩) Tryz.func271 h
@[reducible] def s272 (x0:Addr) (x1:Int) (K:Value→SP):SP:=
 ldI .i64 3 (x0.add 2) fun n1=>st 3 (x0.add 2) (.int .i64 (w64 (n1-x1)))<|Lp (fun self3 l4=>unI .i64 (l4.headD undef) fun i5=>br (decide (i5>0)) (ldL 144 (x0.add 0) fun a7 n8 c9=>ix 144 (.slice a7 n8 c9) (0) fun a11=>ldS 9 (a11) fun s13=>ldI .i64 3 (x0.add 1) fun n15=>ldI .i64 3 (x0.add 1) fun n17=>st 3 (x0.add 1) (.int .i64 (w64 (n17+if w64 ((s13.size:Int)-n15)<i5 then w64 ((s13.size:Int)-n15)else i5)))<|ldI .i64 3 (x0.add 1) fun n20=>ldL 144 (x0.add 0) fun a22 n23 c24=>ix 144 (.slice a22 n23 c24) (0) fun a26=>ldS 9 (a26) fun s28=>br (n20 == (s28.size:Int)) (ldL 144 (x0.add 0) fun a30 n31 c32=>qy (Instr.sliceAt 144 (.slice a30 n31 c32) (some (.int .i64 1)) none none)<|fun v33=>unL v33 fun a34 n35 c36=>st 144 (x0.add 0) (.slice a34 n35 c36)<|st 3 (x0.add 1) (.int .i64 0)<|self3 [.int .i64 (w64 (i5-if w64 ((s13.size:Int)-n15)<i5 then w64 ((s13.size:Int)-n15)else i5))])<|self3 [.int .i64 (w64 (i5-if w64 ((s13.size:Int)-n15)<i5 then w64 ((s13.size:Int)-n15)else i5))])<|K (undef)) [.int .i64 x1]
theorem f272 {x0:Addr} {x1:Int} (h:s272 x0 x1 K cs):fn 272 [.pointer (some x0),.int .i64 x1] K cs:=fO (an:=⟨[(1,[(1,.int .i64)])],[]⟩) Tryz.func272 h
end Go.Proofs.YtbjlfobjngogkaaGreatDoor
namespace Go.Proofs.YtbjlfobjngogkaaGreatDoor
open Go
set_option synthInstance.maxSize 100000
set_option synthInstance.maxHeartbeats 1000000
set_option maxRecDepth 100000
theorem nev:never=9223372036854775807:=rfl
theorem keq {K:Value→SP} {v v':Value} {cs:St} (h:K v cs) (e:v'=v):K v' cs:=e▸h
class Ints (k:IntKind) (c:List Value) (l:outParam (List Int)):Prop where
 h:c=List.map (Value.int k) l
instance {k:IntKind}:Ints k [] []:=⟨rfl⟩
instance {k:IntKind} {n:Int} {c:List Value} {l:List Int} [i:Ints k c l]:Ints k (.int k n::c) (n::l):=⟨by rw [i.h];rfl⟩
section
variable {cs:St} {K:Value→SP}
instance c145 {x:Int}:Go1 (fn 145 [.int .i64 x] K cs) (K (.int .i64 (own x)) cs):=⟨fun h=>f145 (keq h (by unfold own;congr 1;omega))⟩
instance c228 {x:Int}:Go1 (fn 228 [.int .i64 x] K cs) (K (.int .i64 (own x)) cs):=⟨fun h=>f228 (by unfold s228;exact go h)⟩
instance c85 {t d:Int}:Go1 (fn 85 [.int .i64 t,.int .i64 d] K cs) ((t≤never∧d≤never)∧K (.int .i64 (tadd t d)) cs):=⟨fun h=>f85 (by
 obtain⟨⟨ht,hd⟩,h⟩:=h
 unfold s85;refine go ?_
 have e1:w64 (9223372036854775807-own d)=9223372036854775807-own d:=w64_id (by have:=nev;unfold own;omega)
 rw [e1]
 refine⟨fun hc=>keq h ?_,fun hc=>keq h ?_⟩
 ·simp only [decide_eq_true_eq]at hc
  simp [tadd,hc]
 ·simp only [decide_eq_false_iff_not]at hc
  have e2:w64 (own t+own d)=own t+own d:=w64_id (by have:=nev;unfold own at *;omega)
  simp [tadd,hc,e2])⟩
instance c158 {t d:Int}:Go1 (fn 158 [.int .i64 t,.int .i64 d] K cs) (K (.bool (tdue t d)) cs):=⟨fun h=>f158 (by
 unfold s158;refine go ?_
 refine⟨fun hc=>keq h ?_,fun hc=>keq h ?_⟩ <;>simp_all [tdue])⟩
instance c340 {b n m:Nat} {T:TypeId} {c:List Value} {l:List Int} [r:RdB cs b T c] [i:Ints .i64 c l]:Go1 (fn 340 [.slice (some (ad b 0)) n m] K cs) ((n=l.length∧n≤9223372036854775806)∧K (.int .i64 (tleast l)) cs):=⟨fun h=>f340 (by
 obtain⟨⟨rfl,hlen⟩,h⟩:=h
 have r2:RdB cs b T (List.map (Value.int .i64) l):=⟨by rw [←i.h];exact r.h⟩
 refine lp (fun x:Int×Nat=>[.int .i64 x.1,.int .i64 x.2]) (fun _=>cs) (fun x=>x.2≤l.length∧x.1=(l.take x.2).foldl (fun m t=>min m (own t)) never) (fun x=>l.length-x.2) (never,0) rfl (Imp.refl _) (by simp) ?_
 rintro⟨acc,i⟩ ⟨hi,hacc⟩
 dsimp only at *
 refine go ?_
 simp only [decide_eq_true_eq,decide_eq_false_iff_not]
 refine⟨fun hc=>⟨by omega,by omega,((l.take (i+1)).foldl (fun m t=>min m (own t)) never,i+1),?_,Imp.refl _,⟨by simp only;omega,rfl⟩,by simp only;omega⟩,fun hc=>keq h ?_⟩
 ·have hlt:i<l.length:=by omega
  simp only [Int.toNat_natCast,List.take_succ_eq_append_getElem hlt,List.foldl_append,List.foldl_cons,List.foldl_nil,←hacc,List.getD_eq_getElem?_getD,List.getElem?_eq_getElem hlt,Option.getD_some]
  rw [w64_id (by omega)]
  simp only [List.cons.injEq,Value.int.injEq,true_and,and_true]
  constructor
  ·omega
  ·omega
 ·have:i=l.length:=by omega
  subst this
  rw [hacc,List.take_length];rfl)⟩
abbrev suC (s:Setup):List Value:=[.int .i64 s.live,.int .i64 s.ring,.int .i64 s.win,.int .i64 s.out,.int .i64 s.quantum,.int .i64 s.visits]
instance c211 {a b:Int}:Go1 (fn 211 [.int .i64 a,.int .i64 b] K cs) (K (.bool (inn a b)) cs):=⟨fun h=>f211 (by
 unfold s211;refine go ?_
 refine⟨fun hc=>keq h ?_,fun hc=>keq h ?_⟩ <;>simp_all [inn] <;>omega)⟩
instance c132 {s:Setup}:Go1 (fn 132 [.agg ⟨suC s⟩] K cs) (K (.bool (good s)) cs):=⟨fun h=>up0 (f132 (by
 unfold s132;refine goj ?_;intro b
 refine⟨fun _=>⟨fun _=>⟨fun _=>⟨fun _=>⟨fun _=> ?_,fun _=> ?_⟩,fun _=> ?_⟩,fun _=> ?_⟩,fun _=> ?_⟩,fun _=> ?_⟩ <;>(refine fin (keq h ?_);simp_all [good])))⟩
instance c68 {s:Setup}:Go1 (fn 68 [.agg ⟨suC s⟩] K cs) (K (.bool (good s)) cs):=⟨fun h=>up0 (f68 (by
 unfold s68;refine go ?_;intro b;exact fin h))⟩
instance c336 {a b:Int}:Go1 (fn 336 [.int .i64 a,.int .i64 b] K cs) (K (.int .i64 (some' a b)) cs):=⟨fun h=>f336 (keq h (by unfold some';congr 1;omega))⟩
instance c251 {s:Setup} {k a b:Int}:Go1 (fn 251 [.agg ⟨suC s⟩,.int .i64 k,.int .i64 a,.int .i64 b] K cs) (K (.int .i64 (price s k a b)) cs):=⟨fun h=>up0 (f251 (by
 unfold s251;refine goj ?_;intro x
 simp only [Bool.not_eq_true',beq_iff_eq,beq_eq_false_iff_ne,ne_eq,Bool.not_eq_false']
 have bnd:good s=true→(1≤s.win∧s.win≤4096)∧(1≤s.out∧s.out≤4096):=by
  intro hg;simp [good,inn]at hg;omega
 refine⟨fun hg=>fin (keq h (by simp [price,hg])),fun hg=>⟨fun hk=>fin (keq h ?_),fun hk=>⟨fun hk1=>fin (keq h ?_),fun hk1=>fin (keq h ?_)⟩⟩⟩
 ·have hb:=bnd hg
  have e1:w64 (some' a s.win+some' b s.win)=some' a s.win+some' b s.win:=w64_id (by unfold some';omega)
  rw [e1,w64_id (by unfold some';omega)]
  simp only [price,hg,hk,if_true]
  simp only [Bool.true_eq_false,if_false,Value.int.injEq,true_and]
  omega
 ·have hb:=bnd hg
  rw [w64_id (by unfold some';omega)]
  simp [price,hg,hk1]
 ·simp [price,hg,hk,hk1]))⟩
abbrev duC (d:Due):List Value:=[.int .i64 d.til,.int .i64 d.lim,.int .i64 d.cut]
instance:ZeT 306 (.agg ⟨[.int .i64 0,.int .i64 0,.int .i64 0]⟩):=⟨by kernel_rfl⟩
instance c322 {a b:Int}:Go1 (fn 322 [.int .i64 a,.int .i64 b] K cs) ((a≤never∧b≤never)∧K (.int .i64 (behind a b)) cs):=⟨fun h=>f322 (by
 unfold s322;refine go ?_
 refine⟨fun hc=>keq h.2 ?_,fun hc=>⟨h.1,keq h.2 ?_⟩⟩ <;>simp_all [behind])⟩
instance c229 {a b:Int}:Go1 (fn 229 [.int .i64 a,.int .i64 b] K cs) ((a≤never∧b≤never)∧K (.agg ⟨duC (Due.begin a b)⟩) cs):=⟨fun h=>up0 (f229 (by
 unfold s229;refine go ?_;intro x;exact⟨h.1,fin h.2⟩))⟩
instance c323 {d:Due}:Go1 (fn 323 [.agg ⟨duC d⟩] K cs) (K (.agg ⟨duC d.rest⟩) cs):=⟨fun h=>up0 (f323 (by
 unfold s323;refine go ?_;intro x y;exact fin h))⟩
instance c326 {d:Due} {a b:Int}:Go1 (fn 326 [.agg ⟨duC d⟩,.int .i64 a,.int .i64 b] K cs) ((a≤never∧b≤never)∧K (.agg ⟨duC (d.wait a b)⟩) cs):=⟨fun h=>up0 (f326 (by
 unfold s326;refine go ?_;intro x y;exact⟨h.1,fin h.2⟩))⟩
instance c327 {d:Due} {a:Int}:Go1 (fn 327 [.agg ⟨duC d⟩,.int .i64 a] K cs) (K (.agg ⟨duC (d.cuts a)⟩) cs):=⟨fun h=>up0 (f327 (by
 unfold s327;refine go ?_;intro x y;refine⟨by omega,fun b=>⟨by simp,fin h⟩⟩))⟩
instance c263 {d:Due}:Go1 (fn 263 [.agg ⟨duC d⟩] K cs) (K (.int .i64 d.first) cs):=⟨fun h=>up0 (f263 (by
 unfold s263;refine go ?_;intro x;refine⟨by omega,fun b=>⟨by simp,fin h⟩⟩))⟩
instance c333 {d:Due} {a:Int}:Go1 (fn 333 [.agg ⟨duC d⟩,.int .i64 a] K cs) (K (.tuple ⟨[.int .i64 (d.over a).1,.bool (d.over a).2]⟩) cs):=⟨fun h=>up0 (f333 (by
 unfold s333;refine go ?_;intro x
 simp only [decide_eq_true_eq,decide_eq_false_iff_not]
 repeat' (first | apply And.intro | intro _)
 all_goals (refine fin (keq h ?_);simp_all [Due.over])
 all_goals (rw [if_neg (fun hh=>by have:=hh.1;omega)];simp)))⟩
instance c335 {d:Due} {a:Int}:Go1 (fn 335 [.agg ⟨duC d⟩,.int .i64 a] K cs) (K (.bool (d.woken a)) cs):=⟨fun h=>up0 (f335 (by
 unfold s335;refine go ?_;intro x;exact fin h))⟩
end
abbrev wv (s:Nat):List Value:=List.map (Value.int .u64) (wI s)
theorem tdiv64 (b:Nat) (h:b<256):IntKind.wrap .u8 (Int.tdiv (b:Int) 64)=((b / 64:Nat):Int):=by
 rw [wrap_u8,Int.tdiv_eq_ediv_of_nonneg (by omega)];omega
theorem tmod64 (b:Nat):Int.tmod (b:Int) 64=((b % 64:Nat):Int):=by
 rw [Int.tmod_eq_emod_of_nonneg (by omega)];omega
instance tkW {s:Nat}:Tk (List.map (Value.int .u64) (wI s)) 4 (wv s):=⟨[],by simp,rfl⟩
instance onesW {s:Nat}:Ones (List.map (Value.int .u64) (wI s)):=⟨fun u hu=>by obtain⟨n,_,rfl⟩:=List.mem_map.1 hu;rfl⟩
instance lenW {s:Nat}:Len (List.map (Value.int .u64) (wI s)) 4:=⟨rfl⟩
instance layW {s:Nat} {a b c d:Value}:Lay [a,b,c,d] 0 (List.map (Value.int .u64) (wI s)) (wv s):=⟨rfl,by simp [wI_len]⟩
instance layWW {s t:Nat}:Lay (List.map (Value.int .u64) (wI t)) 0 (List.map (Value.int .u64) (wI s)) (wv s):=⟨rfl,by simp [wI_len]⟩
theorem wI_one (s:Nat) {i:Nat} (h:i<4):BitVec.ofInt 64 ((wI s).getD i 0)=BitVec.ofInt 64 ((wN s i:Nat):Int):=by rw [wI_get s h]
theorem pow_bit {k:Nat} (h:k<64):IntKind.wrap .u64 (1*2 ^ min ((k:Int)).toNat 64)=((2 ^ k:Nat):Int):=by
 rw [Int.toNat_natCast,Nat.min_eq_left (by omega),Int.one_mul]
 have:(2:Int) ^ k=((2 ^ k:Nat):Int):=by norm_cast
 rw [this]
 exact wrap_nat (Nat.pow_lt_pow_right (by decide) h)
theorem pow_lt64 {k:Nat} (h:k<64):2 ^ k<18446744073709551616:=Nat.pow_lt_pow_right (a:=2) (by decide) h
theorem wv0:wv 0=[.int .u64 0,.int .u64 0,.int .u64 0,.int .u64 0]:=by simp only [wv,wI,List.map_cons,List.map_nil];rfl
section
variable {cs:St} {K:Value→SP}
instance c477 {s b:Nat}:Go1 (fn 477 [.agg ⟨wv s⟩,.int .u8 (b:Int)] K cs) (b<256∧K (.agg ⟨wv (sWith s b)⟩) cs):=⟨fun h=>up0 (f477 (by
 obtain⟨hb,h⟩:=h
 unfold s477
 refine go fun b1 b2=> ?_
 have h1:b % 64<64:=Nat.mod_lt _ (by decide)
 rw [tdiv64 b hb,tmod64 b,Nat.zero_add,Int.toNat_natCast,wI_one s (by omega),pow_bit h1,uor (wN_lt _ _) (pow_lt64 h1),wI_with s b hb]
 refine go ?_
 refine⟨by omega,by rw [wI_len];omega,by omega,by omega,by rw [wI_len];omega,fin h⟩))⟩
theorem w8 {n:Nat} (h:n<256):IntKind.wrap .u8 (n:Int)=(n:Int):=by rw [wrap_u8];omega
instance c467 {a b:Nat}:Go1 (fn 467 [.int .u8 (a:Int),.int .u8 (b:Int)] K cs) ((a<256∧b<256)∧K (.agg ⟨wv (sSpan a b)⟩) cs):=⟨fun h=>up0 (f467 (by
 obtain⟨⟨ha,hb⟩,h⟩:=h
 unfold s467
 refine go fun b1 b2=> ?_
 have ea:w64 (a:Int)=a:=w64_id (by omega)
 have eb:w64 (b:Int)=b:=w64_id (by omega)
 rw [ea,eb]
 refine lp (fun k:Nat=>[.int .i64 (a+k:Nat)]) (fun k=>bk b2 412 (wv (sFrom 0 a k))::bk b1 412 (wv 0)::cs) (fun k=>k≤b+1-a) (fun k=>b+1-a-k) 0 rfl (by rw [show sFrom 0 a 0=0 from rfl,wv0];exact drp) (Nat.zero_le _) ?_
 intro k hk
 dsimp only
 refine go ?_
 simp only [decide_eq_true_eq,decide_eq_false_iff_not]
 refine⟨fun hc=> ?_,fun hc=> ?_⟩
 ·rw [w8 (by omega)]
  refine go ⟨by omega,?_⟩
  refine⟨k+1,by rw [w64_id (by omega)];rfl,?_,by omega,by omega⟩
  rw [sFrom_succ]
  exact drp
 ·have e:k=b+1-a:=by omega
  subst e
  exact fin h))⟩
instance c455 {a b:Nat}:Go1 (fn 455 [.int .u8 (a:Int),.int .u8 (b:Int)] K cs) ((a<256∧b<256)∧K (.agg ⟨wv (sSpan a b)⟩) cs):=⟨fun h=>up0 (f455 (by
 unfold s455
 exact go fun b1=>⟨h.1,fin h.2⟩))⟩
theorem bit1 {n:Nat}:(IntKind.wrap .u64 ((BitVec.ofInt 64 (n:Int)&&&BitVec.ofInt 64 1).toNat:Int) == 1)=(n % 2 == 1):=by
 have e:BitVec.ofInt 64 1=BitVec.ofNat 64 1:=rfl
 rw [bv_nat,e,BitVec.toNat_and,BitVec.toNat_ofNat,BitVec.toNat_ofNat,Nat.and_one_is_mod,wrap_u64,Bool.eq_iff_iff]
 simp only [beq_iff_eq]
 omega
instance c461 {s b:Nat}:Go1 (fn 461 [.agg ⟨wv s⟩,.int .u8 (b:Int)] K cs) (b<256∧K (.bool (sHas s b)) cs):=⟨fun h=>up0 (f461 (by
 obtain⟨hb,h⟩:=h
 unfold s461
 refine go fun b1=> ?_
 have h1:b % 64<64:=Nat.mod_lt _ (by decide)
 rw [tdiv64 b hb,tmod64 b,Nat.zero_add,Int.toNat_natCast,wI_get s (by omega)]
 have e:((wN s (b / 64):Nat):Int).fdiv (2 ^ min ((b % 64:Nat):Int).toNat 64)=((wN s (b / 64) / 2 ^ (b % 64):Nat):Int):=by
  have hp:(2:Int) ^ (b % 64)=((2 ^ (b % 64):Nat):Int):=by norm_cast
  rw [Int.toNat_natCast,Nat.min_eq_left (by omega),hp,Int.fdiv_eq_ediv_of_nonneg _ (Int.natCast_nonneg _)]
  exact(Int.natCast_ediv _ _).symm
 rw [e,bit1,sHas_word]
 exact⟨by omega,by rw [wI_len];omega,by omega,fin h⟩))⟩
instance c444 {s b:Nat}:Go1 (fn 444 [.agg ⟨wv s⟩,.int .u8 (b:Int)] K cs) (b<256∧K (.bool (sHas s b)) cs):=⟨fun h=>up0 (f444 (by
 unfold s444
 exact go fun b1=>⟨h.1,fin h.2⟩))⟩
theorem set_get {l:List Int} {i:Nat} (h:i<l.length) (x:Int):(l.set i x).getD i 0=x:=by
 rw [List.getD_eq_getElem?_getD,List.getElem?_set_self h];rfl
theorem wI_ext {l:List Int} {s:Nat} (hl:l.length=4) (h:∀i,i<4→l.getD i 0=(wN s i:Nat)):l=wI s:=by
 apply List.ext_getElem (by rw [hl,wI_len])
 intro i h1 h2
 have h3:=h i (by omega)
 have h4:=wI_get s (i:=i) (by omega)
 rw [List.getD_eq_getElem?_getD,List.getElem?_eq_getElem h1]at h3
 rw [List.getD_eq_getElem?_getD,List.getElem?_eq_getElem h2]at h4
 exact h3.trans h4.symm
instance c482 {s:Nat}:Go1 (fn 482 [.agg ⟨wv s⟩] K cs) (K (.agg ⟨wv (sNot s)⟩) cs):=⟨fun h=>up0 (f482 (by
 unfold s482
 refine go fun b1 b2=> ?_
 refine lp (fun k:Nat×List Int=>[.int .i64 k.1]) (fun k=>bk b2 412 (wv 0)::bk b1 412 (List.map (Value.int .u64) k.2)::cs) (fun k=>k.1≤4∧k.2.length=4∧(∀i,i<k.1→k.2.getD i 0=(wN (sNot s) i:Nat))∧∀i,k.1≤i→i<4→k.2.getD i 0=(wN s i:Nat)) (fun k=>4-k.1) (0,wI s) rfl (by rw [wv0];exact drp)
  ⟨Nat.zero_le _,rfl,fun i hi=>absurd hi (Nat.not_lt_zero _),fun i _ hi=>wI_get s hi⟩ ?_
 rintro⟨k,l⟩ ⟨i1,i2,i3,i4⟩
 dsimp only at *
 refine go ?_
 simp only [decide_eq_true_eq,decide_eq_false_iff_not,Nat.zero_add,Int.toNat_natCast]
 refine⟨fun hc=> ?_,fun hc=> ?_⟩
 ·refine⟨by omega,by omega,by omega,by omega,(k+1,l.set k (wN (sNot s) k:Nat)),by rw [w64_id (by omega)];rfl,?_,⟨by simp only;omega,by simp [i2],fun i hi=> ?_,fun i h1 h2=> ?_⟩,by simp only;omega⟩
  ·have e:=uxor (x:=18446744073709551615) (by decide) (wN_lt s k)
   rw [←wN_not s (by omega)]at e
   rw [i4 k (Nat.le_refl _) (by omega)]
   have e2:((18446744073709551615:Nat):Int)=18446744073709551615:=rfl
   rw [e2]at e
   rw [e]
   exact drp
  ·by_cases he:i=k
   ·subst he;exact set_get (by omega) _
   ·rw [List.getD_eq_getElem?_getD,List.getElem?_set_ne (by omega),←List.getD_eq_getElem?_getD];exact i3 i (by simp only at hi;omega)
  ·rw [List.getD_eq_getElem?_getD,List.getElem?_set_ne (by simp only at h1;omega),←List.getD_eq_getElem?_getD];exact i4 i (by simp only at h1;omega) h2
 ·have hk:k=4:=by omega
  subst hk
  have e:l=wI (sNot s):=wI_ext i2 i3
  subst e
  refine go ?_
  exact fin h))⟩
instance c481 {s t:Nat}:Go1 (fn 481 [.agg ⟨wv s⟩,.agg ⟨wv t⟩] K cs) (K (.agg ⟨wv (sOr s t)⟩) cs):=⟨fun h=>up0 (f481 (by
 unfold s481
 refine go fun b1 b0 b2=> ?_
 refine lp (fun k:Nat×List Int=>[.int .i64 k.1]) (fun k=>bk b2 412 (wv 0)::bk b0 412 (wv t)::bk b1 412 (List.map (Value.int .u64) k.2)::cs) (fun k=>k.1≤4∧k.2.length=4∧(∀i,i<k.1→k.2.getD i 0=(wN (sOr s t) i:Nat))∧∀i,k.1≤i→i<4→k.2.getD i 0=(wN s i:Nat)) (fun k=>4-k.1) (0,wI s) rfl (by rw [wv0];exact drp)
  ⟨Nat.zero_le _,rfl,fun i hi=>absurd hi (Nat.not_lt_zero _),fun i _ hi=>wI_get s hi⟩ ?_
 rintro⟨k,l⟩ ⟨i1,i2,i3,i4⟩
 dsimp only at *
 refine go ?_
 simp only [decide_eq_true_eq,decide_eq_false_iff_not,Nat.zero_add,Int.toNat_natCast]
 refine⟨fun hc=> ?_,fun hc=> ?_⟩
 ·refine⟨by omega,by omega,by omega,by rw [wI_len];omega,by omega,by omega,(k+1,l.set k (wN (sOr s t) k:Nat)),by rw [w64_id (by omega)];rfl,?_,⟨by simp only;omega,by simp [i2],fun i hi=> ?_,fun i h1 h2=> ?_⟩,by simp only;omega⟩
  ·rw [i4 k (Nat.le_refl _) (by omega),wI_get t (by omega),uor (wN_lt _ _) (wN_lt _ _),←wN_or]
   exact drp
  ·by_cases he:i=k
   ·subst he;exact set_get (by omega) _
   ·rw [List.getD_eq_getElem?_getD,List.getElem?_set_ne (by omega),←List.getD_eq_getElem?_getD];exact i3 i (by simp only at hi;omega)
  ·rw [List.getD_eq_getElem?_getD,List.getElem?_set_ne (by simp only at h1;omega),←List.getD_eq_getElem?_getD];exact i4 i (by simp only at h1;omega) h2
 ·have hk:k=4:=by omega
  subst hk
  have e:l=wI (sOr s t):=wI_ext i2 i3
  subst e
  refine go ?_
  exact fin h))⟩
end
def rdC (b:Nat) (x:ByteArray×Int×Int):Chunk:=bk b 560 [.string x.1,.int .i64 x.2.1,.int .i64 x.2.2]
theorem sat_cAt (s:ByteArray) (k:Nat):sat s k=(cAt (bl s) k:Nat):=by
 unfold sat cAt bl
 rw [Int.toNat_natCast]
 simp
section
variable {cs:St} {b k:Nat} {s:ByteArray} {e:Int} {put:Chunk→St} {K:Value→SP}
instance rdRd {n:Int} [o:Ob rdC cs b (s,n,e) put]:RdB cs b 560 [.string s,.int .i64 n,.int .i64 e]:=⟨by
 obtain⟨i,h,_⟩:=o.h;exact Rd.in h (by simp [rdC,bk])⟩
instance rdSt1 {n m:Int} {K:SP} [o:Ob rdC cs b (s,n,e) put]:Go1 (st 3 ((ad b 0).add 1) (.int .i64 m) K cs) (K (put (rdC b (s,m,e)))):=⟨fun h=>by
 obtain⟨i,h1,h2⟩:=o.h
 rw [add_ad]
 refine st_wr (l:=[.int .i64 m]) rfl (by simp [one]) (by kernel_rfl) ⟨i,560,_,h1,by simp,rfl⟩ ?_
 rw [h2]at h
 exact h⟩
instance rdSt2 {n m:Int} {K:SP} [o:Ob rdC cs b (s,n,e) put]:Go1 (st 57 ((ad b 0).add 2) (.int .i64 m) K cs) (K (put (rdC b (s,n,m)))):=⟨fun h=>by
 obtain⟨i,h1,h2⟩:=o.h
 rw [add_ad]
 refine st_wr (l:=[.int .i64 m]) rfl (by simp [one]) (by kernel_rfl) ⟨i,560,_,h1,by simp,rfl⟩ ?_
 rw [h2]at h
 exact h⟩
instance c478 [o:Ob rdC cs b (s,(k:Int),e) put] {x:Int}:Go1 (fn 478 [.pointer (some (ad b 0)),.int .u8 x] K cs) (K (.bool (isAt (bl s) k x)) cs):=⟨fun h=>f478 (by
 unfold s478
 refine go ⟨fun h1=> ?_,fun h1=> ?_⟩
 ·simp only [decide_eq_true_eq]at h1
  refine⟨by omega,keq h ?_⟩
  rw [sat_cAt,isAt,bl_length]
  have:k<s.size:=by omega
  simp [this]
 ·simp only [decide_eq_false_iff_not]at h1
  refine keq h ?_
  rw [isAt,bl_length]
  have:¬k<s.size:=by omega
  simp [this])⟩
instance c479 [o:Ob rdC cs b (s,(k:Int),e) put]:Go1 (fn 479 [.pointer (some (ad b 0))] K cs) (K undef (put (rdC b (s,if k≥s.size then((s.size:Int),3)else((k:Int),2))))):=⟨fun h=>o.fn1 (bk b 560 [.string s,.int .i64 k,.int .i64 e]) rfl fun F=>f479 (by
 unfold s479
 refine go ⟨fun h1=> ?_,fun h1=> ?_⟩
 ·simp only [ge_iff_le,decide_eq_true_eq]at h1
  have:k≥s.size:=by omega
  rw [if_pos this]at h
  simp only [rdC]at h
  exact⟨_,drp,h⟩
 ·simp only [ge_iff_le,decide_eq_false_iff_not]at h1
  have:¬k≥s.size:=by omega
  rw [if_neg this]at h
  simp only [rdC]at h
  exact⟨_,drp,h⟩)⟩
theorem sat_pred (s:ByteArray) {k:Nat} (h:k+1<9223372036854775808):sat s (w64 (w64 ((k:Int)+1)-1))=(cAt (bl s) k:Nat):=by
 have e1:w64 ((k:Int)+1)=((k+1:Nat):Int):=by rw [w64_id (by omega)];rfl
 have e2:w64 (((k+1:Nat):Int)-1)=(k:Nat):=by rw [w64_id (by omega)];omega
 rw [e1,e2,sat_cAt]
def signR (s:List UInt8) (k:Nat):Nat×Int×Int:=match rSign s k with
 | .error (p,e)=>(0,p,e)
 | .ok (d,j)=>(d,j,0)
instance c488 [o:Ob rdC cs b (s,(k:Int),0) put]:Go1 (fn 488 [.pointer (some (ad b 0))] K cs)
  ((k≤s.size∧s.size≤1000000000000)∧K (.int .u8 (signR (bl s) k).1) (put (rdC b (s,(signR (bl s) k).2)))):=⟨fun h=>o.fn1 (rdC b (s,k,0)) rfl fun F=>f488 (by
 obtain⟨⟨h1,h2⟩,h⟩:=h
 unfold s488
 have e0:=sat_pred s (k:=k) (by omega)
 have e1:w64 ((k:Int)+1)=((k+1:Nat):Int):=by rw [w64_id (by omega)];rfl
 have e2:=sat_pred s (k:=k+1) (by omega)
 have e3:w64 (((k+1:Nat):Int)+1)=((k+2:Nat):Int):=by rw [w64_id (by omega)];rfl
 rw [e1]at e0
 refine goj ?_
 rw [e1]
 refine goj ?_
 rw [e0,e2,e3]
 simp only [ge_iff_le,decide_eq_true_eq,decide_eq_false_iff_not]
 have w1:w64 (((k+2:Nat):Int)-1)=((k+1:Nat):Int):=by rw [w64_id (by omega)];omega
 have w2:w64 (((k+1:Nat):Int)-1)=(k:Nat):=by rw [w64_id (by omega)];omega
 rw [w1,w2]
 refine⟨fun c1=>⟨fun c2=> ?_,fun c2=>⟨by omega,?_⟩⟩,fun c1=>⟨fun c2=> ?_,fun c2=>⟨fun c3=> ?_,fun c3=>⟨fun c4=> ?_,fun c4=>⟨by omega,?_⟩⟩⟩⟩⟩
 ·have g:k+1≥s.size:=by omega
  simp only [signR,rSign,c1,if_true,bl_length,g]at h
  rw [if_pos (by omega)]
  exact⟨_,drp,h⟩
 ·have g:¬k+1≥s.size:=by omega
  simp only [signR,rSign,c1,if_true,bl_length,g,if_false]at h
  exact⟨_,drp,h⟩
 ·have g:k≥s.size:=by omega
  simp only [signR,rSign,c1,Bool.false_eq_true,if_false,if_true,bl_length,g]at h
  rw [if_pos (by omega)]
  exact⟨_,drp,h⟩
 ·have g:¬k≥s.size:=by omega
  simp only [signR,rSign,c1,c3,Bool.false_eq_true,if_false,if_true,bl_length,g,if_false]at h
  rw [if_neg (by omega)]
  exact⟨_,drp,h⟩
 ·have g:¬k≥s.size:=by omega
  simp only [signR,rSign,c1,c3,c4,Bool.false_eq_true,if_false,if_true,bl_length,g,if_false]at h
  rw [if_neg (by omega)]
  exact⟨_,drp,h⟩
 ·have g:¬k≥s.size:=by omega
  simp only [signR,rSign,c1,c3,c4,Bool.false_eq_true,if_false,bl_length,g,if_false]at h
  exact⟨_,drp,h⟩)⟩
def partE (s:List UInt8) (k:Nat):Int×Int:=match rPart s k with
 | .error (p,e)=>(p,e)
 | .ok (_,j)=>(j,0)
instance c480 [o:Ob rdC cs b (s,(k:Int),0) put]:Go1 (fn 480 [.pointer (some (ad b 0))] K cs)
  ((k≤s.size∧s.size≤1000000000000)∧∀x,(x<2 ^ 256∧∀y j,rPart (bl s) k= .ok (y,j)→x=y)→K (.agg ⟨wv x⟩) (put (rdC b (s,partE (bl s) k)))):=⟨fun h=>o.fn1 (rdC b (s,k,0)) rfl fun F=>f480 (by
 obtain⟨⟨h1,h2⟩,h⟩:=h
 unfold s480
 refine goj fun b1=>⟨⟨h1,h2⟩,?_⟩
 cases hs:rSign (bl s) k with
 | error pe=>
  have e1:signR (bl s) k=(0,(pe.1:Int),pe.2):=by simp only [signR,hs]
  have e2:partE (bl s) k=((pe.1:Int),pe.2):=by simp only [partE,rPart,hs]
  have e3:=(rSign_err hs).2.1
  rw [e1]
  rw [e2]at h
  dsimp only
  have e4:(pe.2 != 0)=true:=by simpa using e3
  simp only [e4,true_implies,Bool.true_eq_false,false_implies,and_true]
  exact⟨by decide,_,drp,h _ ⟨sSpan_lt (by decide),fun y j hy=>by simp [rPart,hs]at hy⟩⟩
 | ok aj=>
  obtain⟨a,j⟩:=aj
  have e1:signR (bl s) k=(a,(j:Int),0):=by simp only [signR,hs]
  obtain⟨g1,g2,g3⟩:=rSign_ok hs
  rw [bl_length]at g2
  rw [e1]
  dsimp only
  refine goj ?_
  simp only [bne_self_eq_false,Bool.false_eq_true,false_implies,true_and,true_implies]
  cases hd:isAt (bl s) j 45 with
  | false=>
   simp only [Bool.not_false,true_implies,Bool.true_eq_false,false_implies,and_true]
   have e2:rPart (bl s) k= .ok (sSpan a a,j):=by simp only [rPart,hs,hd,Bool.false_eq_true,if_false]
   have e3:partE (bl s) k=((j:Int),0):=by simp only [partE,e2]
   rw [e3]at h
   exact⟨⟨g3,g3⟩,_,drp,h _ ⟨sSpan_lt g3,fun y j hy=>by rw [e2]at hy;cases hy;rfl⟩⟩
  | true=>
   simp only [Bool.not_true,true_implies,Bool.false_eq_true,false_implies,true_and]
   have hj:=isAt_lt hd
   rw [bl_length]at hj
   have w1:w64 ((j:Int)+1)=((j+1:Nat):Int):=by rw [w64_id (by omega)];rfl
   rw [w1]
   refine goj ⟨⟨by omega,h2⟩,?_⟩
   cases hs2:rSign (bl s) (j+1)with
   | error pe=>
    have e1:signR (bl s) (j+1)=(0,(pe.1:Int),pe.2):=by simp only [signR,hs2]
    have e4:rPart (bl s) k= .error pe:=by simp only [rPart,hs,hd,if_true,hs2]
    have e2:partE (bl s) k=((pe.1:Int),pe.2):=by simp only [partE,e4]
    have e3:=(rSign_err hs2).2.1
    rw [e1]
    rw [e2]at h
    dsimp only
    have e5:(pe.2 == 0)=false:=by simpa using e3
    simp only [e5,Bool.false_eq_true,false_implies,true_implies,true_and]
    exact⟨⟨g3,by decide⟩,_,drp,h _ ⟨sSpan_lt (by decide),fun y j hy=>by rw [e4]at hy;cases hy⟩⟩
   | ok di=>
    obtain⟨d,i⟩:=di
    have e1:signR (bl s) (j+1)=(d,(i:Int),0):=by simp only [signR,hs2]
    obtain⟨g4,g5,g6⟩:=rSign_ok hs2
    rw [bl_length]at g5
    rw [e1]
    dsimp only
    refine goj ?_
    simp only [beq_self_eq_true,true_implies,Bool.true_eq_false,false_implies,and_true,decide_eq_true_eq,decide_eq_false_iff_not]
    have w2:w64 ((i:Int)-1)=((i-1:Nat):Int):=by rw [w64_id (by omega)];omega
    rw [w2]
    refine⟨fun c1=>⟨⟨g3,g6⟩,?_⟩,fun c1=>⟨⟨g3,g6⟩,?_⟩⟩
    ·have e4:rPart (bl s) k= .error (i-1,12):=by
      have:d<a:=by omega
      simp only [rPart,hs,hd,if_true,hs2,this]
     have e2:partE (bl s) k=(((i-1:Nat):Int),12):=by simp only [partE,e4]
     rw [e2]at h
     exact⟨_,drp,h _ ⟨sSpan_lt g6,fun y j hy=>by rw [e4]at hy;cases hy⟩⟩
    ·have e4:rPart (bl s) k= .ok (sSpan a d,i):=by
      have:¬d<a:=by omega
      simp only [rPart,hs,hd,if_true,hs2,this,if_false]
     have e2:partE (bl s) k=((i:Int),0):=by simp only [partE,e4]
     rw [e2]at h
     exact⟨_,drp,h _ ⟨sSpan_lt g6,fun y j hy=>by rw [e4]at hy;cases hy;rfl⟩⟩)⟩
instance bz412:BdZ 412 (wv 0):=⟨by rw [wv0];kernel_rfl⟩
def rTail (s:List UInt8) (k:Nat):Res Nat:=match rPart s k with
 | .error e=> .error e
 | .ok (x,j)=>rRest s (s.length+1) x j
theorem rRest_in {s:List UInt8}:∀(f x k:Nat) {r:Res Nat},rRest s f x k=r→k≤s.length→s.length+1≤f+k→x<2 ^ 256→match r with
  | .error (p,e)=>p≤s.length∧e≠0
  | .ok (y,j)=>k≤j∧j<s.length∧y<2 ^ 256
 | 0,x,k,r,_,hk,hf,_=>by omega
 | f+1,x,k,r,h,hk,hf,hx=>by
  unfold rRest at h
  split at h
  ·rename_i h93
   have:=isAt_lt h93
   subst h
   exact⟨Nat.le_refl _,this,hx⟩
  ·split at h
   ·rename_i e he
    subst h
    obtain⟨p,e⟩:=e
    exact rPart_err he
   ·rename_i y j hy
    obtain⟨g1,g2,g3⟩:=rPart_ok hy
    have:=rRest_in f (sOr x y) j h g2 (by omega) (sOr_lt hx g3)
    split at this
    ·exact this
    ·exact⟨by omega,this.2.1,this.2.2⟩
def wholeI (s:List UInt8) (k0:Nat) (a:Nat×Nat×Int×Nat):Prop:=
 a.1<2 ^ 256∧((a.2.2.1≠0∧rTail s k0= .error (a.2.1,a.2.2.1))∨(a.2.2.1=0∧a.2.1≤s.length∧s.length+1≤a.2.2.2+a.2.1∧rRest s a.2.2.2 a.1 a.2.1=rTail s k0))
theorem wholeI0 {s:List UInt8} {k0 x:Nat} (hx:x<2 ^ 256∧∀y j,rPart s k0= .ok (y,j)→x=y):∃(p:Nat) (e:Int) (f:Nat),partE s k0=((p:Int),e)∧wholeI s k0 (x,p,e,f):=by
 cases hp:rPart s k0 with
 | error pe=>
  obtain⟨p,e⟩:=pe
  exact⟨p,e,0,by simp only [partE,hp],hx.1,.inl ⟨(rPart_err hp).2,by simp only [rTail,hp]⟩⟩
 | ok yj=>
  obtain⟨y,j⟩:=yj
  have e1:=hx.2 y j hp
  subst e1
  exact⟨j,0,s.length+1,by simp only [partE,hp],hx.1,.inr ⟨rfl,(rPart_ok hp).2.1,by simp only;omega,by simp only [rTail,hp]⟩⟩
def wholeE (s:List UInt8):Int×Int:=match rWhole s with
 | .error (p,e)=>(p,e)
 | .ok (_,j)=>(j,0)
instance c468 [o:Ob rdC cs b (s,0,0) put]:Go1 (fn 468 [.pointer (some (ad b 0))] K cs)
  (s.size≤1000000000000∧∀x,(x<2 ^ 256∧∀y j,rWhole (bl s)= .ok (y,j)→x=y)→K (.agg ⟨wv x⟩) (put (rdC b (s,wholeE (bl s))))):=⟨fun h=>o.fn1 (rdC b (s,((0:Nat):Int),0)) rfl fun F=>f468 (by
 obtain⟨h2,h⟩:=h
 unfold s468
 refine go ?_
 intro b1
 cases h0:isAt (bl s) 0 91 with
 | false=>
  simp only [Bool.not_false,true_implies,Bool.true_eq_false,false_implies,and_true]
  have e1:wholeE (bl s)=if 0≥s.size then((s.size:Int),3)else(((0:Nat):Int),2):=by
   simp only [wholeE,rWhole,h0,Bool.false_eq_true,if_false,bl_length]
   by_cases hz:s.size=0
   ·simp [hz]
   ·have hz2:¬0≥s.size:=by omega
    simp only [hz,hz2,if_false]
  have e2:∀y j,rWhole (bl s)= .ok (y,j)→0=y:=by
   intro y j hy
   simp only [rWhole,h0,Bool.false_eq_true,if_false]at hy
   split at hy <;>cases hy
  rw [←e1]
  exact⟨_,drp,h 0 ⟨by decide,e2⟩⟩
 | true=>
  simp only [Bool.not_true,true_implies,Bool.false_eq_true,false_implies,true_and]
  have hpos:=isAt_lt h0
  rw [bl_length]at hpos
  have w1:w64 (((0:Nat):Int)+1)=((1:Nat):Int):=rfl
  rw [w1]
  refine go ?_
  have hk0:1≤(if isAt (bl s) 1 94=true then 2 else 1)∧(if isAt (bl s) 1 94=true then 2 else 1)≤s.size:=by
   split
   ·rename_i hc
    have:=isAt_lt hc
    rw [bl_length]at this
    omega
   ·omega
  have hw:rWhole (bl s)=match rTail (bl s) (if isAt (bl s) 1 94=true then 2 else 1)with
    | .error e=> .error e
    | .ok (y,i)=> .ok (if isAt (bl s) 1 94 then sNot y else y,i+1):=by
   simp only [rWhole,h0,if_true,rTail]
   cases rPart (bl s) (if isAt (bl s) 1 94=true then 2 else 1) <;>rfl
  refine⟨fun l c=>Imp c (bk b1 412 (wv 0)::rdC b (s,((if isAt (bl s) 1 94 then 2 else 1:Nat):Int),0)::F),fun l c hc=>⟨_,hc,?_⟩,?_⟩
  ·generalize (if isAt (bl s) 1 94=true then 2 else 1)=k0 at hk0 hw ⊢
   refine go ⟨⟨hk0.2,h2⟩,fun x hx b2=> ?_⟩
   refine⟨fun l c=>∃(y p:Nat) (e:Int),Imp c (bk b2 412 (wv y)::bk b1 412 (wv 0)::rdC b (s,(p:Int),e)::F)∧y<2 ^ 256∧((e≠0∧rTail (bl s) k0= .error (p,e))∨(e=0∧rTail (bl s) k0= .ok (y,p)∧p<s.size)),?_,?_⟩
   ·rintro l c ⟨y,p,e,hi,hy,hh⟩
    refine⟨_,hi,?_⟩
    refine goj ?_
    rcases hh with ⟨he,hr⟩ | ⟨rfl,hr,hp⟩
    ·rw [hr]at hw
     have e1:wholeE (bl s)=((p:Int),e):=by simp only [wholeE,hw]
     rw [e1]at h
     refine⟨fun _=>⟨_,drp,h 0 ⟨by decide,fun y j hy=>by rw [hw]at hy;cases hy⟩⟩,fun hc=> ?_⟩
     simp only [bne_eq_false_iff_eq]at hc
     exact absurd hc he
    ·rw [hr]at hw
     have w2:w64 ((p:Int)+1)=((p+1:Nat):Int):=by rw [w64_id (by omega)];rfl
     have e1:wholeE (bl s)=(((p+1:Nat):Int),0):=by simp only [wholeE,hw]
     rw [e1]at h
     rw [w2]
     refine⟨fun hc=>absurd hc (by decide),fun _=>⟨fun hc=> ?_,fun hc=> ?_⟩⟩
     ·exact⟨_,drp,h _ ⟨sNot_lt hy,fun y j hy=>by rw [hw,hc]at hy;cases hy;rfl⟩⟩
     ·exact⟨_,drp,h _ ⟨hy,fun y j hy=>by rw [hw,hc]at hy;cases hy;rfl⟩⟩
   ·obtain⟨p,e,f,hpe,hI⟩:=wholeI0 hx
    rw [hpe]
    refine lp (fun _:Nat×Nat×Int×Nat=>[]) (fun a=>bk b2 412 (wv a.1)::bk b1 412 (wv 0)::rdC b (s,((a.2.1:Nat):Int),a.2.2.1)::F) (wholeI (bl s) k0) (fun a=>if a.2.2.1=0 then s.size+1-a.2.1 else 0) (x,p,e,f) rfl (by dsimp only;exact drp) hI ?_
    rintro⟨y,p,e,f⟩ ⟨hy,hI⟩
    dsimp only at *
    refine goj ?_
    rw [bl_length]at hI
    refine⟨fun c0=> ?_,fun c0=> ?_⟩
    ·have e0:e=0:=by simpa using c0
     subst e0
     rcases hI with ⟨hI,_⟩ | ⟨_,hp1,hf,hr⟩
     ·exact absurd rfl hI
     obtain⟨f',rfl⟩:∃f',f=f'+1:=⟨f-1,by omega⟩
     unfold rRest at hr
     refine⟨fun c1=> ?_,fun c1=> ?_⟩
     ·have c2:isAt (bl s) p 93=false:=by simpa using c1
      simp only [c2,Bool.false_eq_true,if_false]at hr
      refine go ⟨⟨hp1,h2⟩,fun t ht=> ?_⟩
      cases hp:rPart (bl s) p with
      | error pe=>
       obtain⟨p',e'⟩:=pe
       have e1:partE (bl s) p=((p':Int),e'):=by simp only [partE,hp]
       have e2:=(rPart_err hp).2
       simp only [hp]at hr
       rw [e1]
       refine⟨(sOr y t,p',e',0),rfl,drp,⟨sOr_lt hy ht.1,.inl ⟨e2,hr.symm⟩⟩,?_⟩
       simp only [e2,if_false,if_true]
       omega
      | ok tj=>
       obtain⟨t',j⟩:=tj
       have e1:partE (bl s) p=((j:Int),0):=by simp only [partE,hp]
       have e2:=ht.2 t' j hp
       subst e2
       obtain⟨g1,g2,g3⟩:=rPart_ok hp
       rw [bl_length]at g2
       simp only [hp]at hr
       rw [e1]
       refine⟨(sOr y t,j,0,f'),rfl,drp,⟨sOr_lt hy g3,.inr ⟨rfl,g2,?_,hr⟩⟩,?_⟩
       ·simp only [bl_length];omega
       ·simp only [if_true];omega
     ·have c2:isAt (bl s) p 93=true:=by simpa using c1
      simp only [c2,if_true]at hr
      have g:=isAt_lt c2
      rw [bl_length]at g
      exact⟨y,p,0,drp,hy,.inr ⟨rfl,hr.symm,g⟩⟩
    ·have e0:e≠0:=by simpa using c0
     rcases hI with ⟨_,hI⟩ | ⟨hI,_⟩
     ·exact⟨y,p,e,drp,hy,.inl ⟨e0,hI⟩⟩
     ·exact absurd hI e0
  ·refine go ⟨fun c=> ?_,fun c=> ?_⟩
   ·simp only [c,if_true,wv0];exact Imp.refl _
   ·simp only [c,Bool.false_eq_true,if_false,wv0];exact Imp.refl _)⟩
def readV (s:List UInt8):Value:=match rWhole s with
 | .error (p,e)=> .tuple ⟨[.agg ⟨wv 0⟩,.int .i64 (p:Nat),.int .i64 e]⟩
 | .ok (x,j)=> .tuple ⟨[.agg ⟨wv x⟩,.int .i64 (j:Nat),.int .i64 0]⟩
theorem rWhole_in {s:List UInt8} {r:Res Nat} (h:rWhole s=r):match r with
  | .error (p,e)=>p≤s.length∧e≠0
  | .ok (x,j)=>0<j∧j≤s.length∧x<2 ^ 256:=by
 unfold rWhole at h
 split at h
 ·split at h
  ·rename_i e he
   subst h
   exact rPart_err he
  ·rename_i x j hx
   obtain⟨g1,g2,g3⟩:=rPart_ok hx
   split at h
   ·rename_i e he
    subst h
    exact rRest_in _ _ _ he g2 (by omega) g3
   ·rename_i y i hy
    subst h
    have:=rRest_in _ _ _ hy g2 (by omega) g3
    refine⟨by omega,by omega,?_⟩
    split
    ·exact sNot_lt this.2.2
    ·exact this.2.2
 ·split at h
  ·subst h;exact⟨by omega,by decide⟩
  ·subst h;exact⟨by omega,by decide⟩
instance c456:Go1 (fn 456 [.string s] K cs) (s.size≤1000000000000∧K (readV (bl s)) cs):=⟨fun h=>up0 (f456 (by
 obtain⟨h2,h⟩:=h
 unfold s456
 refine go fun b1 b2=> ?_
 refine fn_imp (cs':=rdC b2 (s,0,0)::bk b1 412 (wv 0)::cs) (by rw [wv0];exact Imp.refl _) ?_
 cases hr:rWhole (bl s)with
 | error pe=>
  obtain⟨p,e⟩:=pe
  have e1:wholeE (bl s)=((p:Int),e):=by simp only [wholeE,hr]
  have e2:readV (bl s)= .tuple ⟨[.agg ⟨wv 0⟩,.int .i64 (p:Nat),.int .i64 e]⟩:=by simp only [readV,hr]
  have e3:=(rWhole_in hr).2
  rw [e2]at h
  refine go ⟨h2,fun x hx=> ?_⟩
  rw [e1]
  intro b3
  refine go ?_
  exact⟨fun hc=>absurd (by simpa using hc) e3,fun _=>fin h⟩
 | ok xj=>
  obtain⟨x,j⟩:=xj
  have e1:wholeE (bl s)=((j:Int),0):=by simp only [wholeE,hr]
  have e2:readV (bl s)= .tuple ⟨[.agg ⟨wv x⟩,.int .i64 (j:Nat),.int .i64 0]⟩:=by simp only [readV,hr]
  rw [e2]at h
  refine go ⟨h2,fun x' hx=> ?_⟩
  have e3:=hx.2 x j hr
  subst e3
  rw [e1]
  intro b3
  refine go ?_
  exact⟨fun _=>fin h,fun hc=>(by simp at hc)⟩))⟩
end
end Go.Proofs.YtbjlfobjngogkaaGreatDoor
namespace Go.Proofs.YtbjlfobjngogkaaGreatDoor
open Go
variable {K:Value→SP} {cs:St}
@[reducible] def s50 (x0:Addr) (x1:ByteArray) (K:Value→SP):SP:=
 fn 121 [.pointer (some x0)]<|fun v0=>unT v0 fun _=>ldL 110 (x0.add 1) fun a3 n4 c5=>sm (Builtin.append_ (Array.mk [110,9]) 110 (Array.mk [.slice a3 n4 c5,.string x1]))<|fun v6=>unL v6 fun a7 n8 c9=>st 110 (x0.add 1) (.slice a7 n8 c9)<|K (.tuple (Array.mk [.int .i64 (x1.size:Int),.nilIface]))
theorem f50 {x0:Addr} {x1:ByteArray} (h:s50 x0 x1 K cs):fn 50 [.pointer (some x0),.string x1] K cs:=fO (an:=⟨[],[]⟩) Tryz.func50 h
@[reducible] def s51 (x0:Addr) (K:Value→SP):SP:=
 ldL 110 (x0.add 1) fun a1 n2 c3=>qy (Builtin.unsafeSliceData_ (Array.mk [110]) 221 (Array.mk [.slice a1 n2 c3]))<|fun v4=>unP v4 fun p5=>ldL 110 (x0.add 1) fun _ n8 _=>sm (Builtin.unsafeString_ (Array.mk [221,3]) 9 (Array.mk [.pointer p5,.int .i64 (n8:Int)]))<|fun v10=>unS v10 fun s11=>K (.string s11)
theorem f51 {x0:Addr} (h:s51 x0 K cs):fn 51 [.pointer (some x0)] K cs:=fO (an:=⟨[],[]⟩) Tryz.func51 h
end Go.Proofs.YtbjlfobjngogkaaGreatDoor
namespace Go.Proofs.YtbjlfobjngogkaaGreatDoor
open Go
set_option synthInstance.maxSize 100000
set_option synthInstance.maxHeartbeats 1000000
set_option maxRecDepth 100000
def shLays240_ren:Go.Shelf.Ren:=⟨fun | 240=>121 | 276=>194 | n=>n,fun | 70=>109 | 3=>3 | 0=>0 | 4=>4 | 9=>9 | 20=>20 | 72=>112 | 37=>110 | 164=>323 | n=>n,fun | n=>n⟩
theorem shLays240:Go.Proofs.Lays.n240 Tryz.prog shLays240_ren:={
 mixed:=by kernel_rfl
 f240:=Tryz.func121.trans (congrArg some (by kernel_rfl))
 f276:=Tryz.func194.trans (congrArg some (by kernel_rfl))
 t0:=Tryz.underlying0
 a0:=Tryz.isAgg0
 z0:=Tryz.sizeOf0
 v0:=Tryz.zeroValue0
 t4:=Tryz.underlying4
 a4:=Tryz.isAgg4
 z4:=Tryz.sizeOf4
 v4:=Tryz.zeroValue4
 t9:=Tryz.underlying9
 a9:=Tryz.isAgg9
 z9:=Tryz.sizeOf9
 v9:=Tryz.zeroValue9
 t20:=Tryz.underlying20
 a20:=Tryz.isAgg20
 z20:=Tryz.sizeOf20
 v20:=Tryz.zeroValue20
 t70:=Tryz.underlying109
 a70:=Tryz.isAgg109
 z70:=Tryz.sizeOf109
 v70:=Tryz.zeroValue109
 t72:=Tryz.underlying112
 a72:=Tryz.isAgg112
 z72:=Tryz.sizeOf112
 v72:=Tryz.zeroValue112
 t164:=Tryz.underlying323
 a164:=Tryz.isAgg323
 z164:=Tryz.sizeOf323
 v164:=Tryz.zeroValue323}
theorem shX72:Builder.X72 Tryz.prog shLays240_ren:={
 sizeBuilder:=by kernel_rfl
 liesBuilder:=by kernel_rfl}
theorem enters121:∃fn,Tryz.prog.funcs[121]? =some fn∧(fn.name == "runtime.NumGoroutine")=false∧fn.body.isNone=false:=⟨_,Tryz.func121,by kernel_rfl,by kernel_rfl⟩
section
variable {cs:St} {b:Nat} {K:Value→SP}
theorem rd_get {c:List Value} {T:TypeId} {E w:World} (h:RdB cs b T c) (hw:Hs E w cs):∃z,w.heap[b]? =some (.cells ⟨c⟩ T z):=by obtain⟨z,hz⟩:=h.h;exact⟨z,hw.holds _ hz⟩
instance {v:Value} [i:RdB cs b 112 [.pointer (some (ad b 0)),v]]:Go1 (fn 121 [.pointer (some (ad b 0))] K cs) (K undef cs):=⟨fun h=>⟨enters121,fun E w hw=>by
 obtain⟨z0,hb⟩:=rd_get i hw
 refine(Any.Builder_copyCheck_used shLays240 shX72 b w (by simp [World.cell?,hb])).mono ?_
 rintro e w' ⟨rfl,rfl⟩
 exact⟨_,cs,rfl,hw,h⟩⟩⟩
instance {v:Value} {cs':St} [i:RdB cs b 112 [.pointer none,v]] [q:Wr cs b 0 [.pointer (some (ad b 0))] cs']:Go1 (fn 121 [.pointer (some (ad b 0))] K cs) (K undef cs'):=⟨fun h=>⟨enters121,fun E w hw=>by
 obtain⟨z0,hb⟩:=rd_get i hw
 obtain⟨iq,Tq,cq,hq1,_⟩:=q.h
 have hq2:=hw.holds _ (mem_flat hq1 (x:=(b,.cells ⟨cq⟩ Tq (0,0))) (by simp [bk]))
 simp only at hq2
 have hz:z0=(0,0):=by rw [hb]at hq2;cases hq2;rfl
 subst hz
 refine(Any.Builder_copyCheck_fresh shLays240 shX72 b w (by simp [World.cell?,hb]) (by simp [World.shape?,hb];rfl) (by simp [World.frozen?,hb])).mono ?_
 rintro e w' ⟨rfl,rfl⟩
 obtain⟨j,T,c,h1,_,rfl⟩:=q.h
 exact⟨_,_,rfl,hw.setCell h1 _,h⟩⟩⟩
end
abbrev bc (l:List UInt8):List Value:=l.map fun x=>Value.int .u8 x.toNat
class BRow (a:Option Addr) (n c:Nat) (l:outParam (List UInt8)) (ch:outParam Chunk):Prop where
 h:(a=none∧n=0∧c=0∧l=[]∧ch=[])∨∃g tail,a=some (ad g 0)∧n=l.length∧l≠[]∧l.length+tail.length=c∧c≤9223372036854775807∧ch=bk g 5 (bc l++tail)
instance brNil:BRow none 0 0 [] []:=⟨.inl ⟨rfl,rfl,rfl,rfl,rfl⟩⟩
theorem info5:∃i,Tryz.prog.info? 5=some i∧i.zero=some (.int .u8 0)∧i.size=1∧i.bytes=1:=by
 obtain⟨i,z,_,h1,h2,h3,h4,_,_⟩:=sliceT_spec (t:=110) (e:=5) (sz:=1) (bytes:=1) (by kernel_rfl)
 refine⟨i,h1,?_,h2,h3⟩
 have:=zeroT_of h1 h4
 have h5:zeroT 5=some (.int .u8 0):=by kernel_rfl
 rw [h4,←this,h5]
theorem bc_str (s:ByteArray):Lib.strCells s=bc (bl s):=rfl
section
variable {cs:St} {K:Value→SP}
theorem app_str {a:Option Addr} {n c:Nat} {l:List UInt8} {ch:Chunk} {s:ByteArray} (i:Nat) (hi:cs[i]? =some ch) (hr:BRow a n c l ch) (h0:0<s.size) (hb:n+s.size≤140737488355328)
  (h:∀a' c' ch',BRow a' (n+s.size) c' (l++bl s) ch'→K (.slice a' (n+s.size) c') (cs.set i ch')):sm (Builtin.append_ ⟨[110,9]⟩ 110 ⟨[.slice a n c,.string s]⟩) K cs:=by
 obtain⟨inf,hinf,hz,hs1,hb1⟩:=info5
 have hu:Tryz.prog.underlying 110=some (.slice 5):=Tryz.underlying110
 have hv:Tryz.prog.underlying 9=some .string:=Tryz.underlying9
 have hbl:bl s≠[]:=fun e=>by have:=bl_length s;rw [e]at this;simp at this;omega
 refine⟨fun E w hw=> ?_⟩
 have grown:∀(cap:Nat),cap<n+s.size→n=l.length→∃ch',Hs E (w.drew.alloc (.cells ((bc l).toArray++(Lib.strCells s).toArray++Builtin.zeroCells (Value.int .u8 0).cells (grownCap w (n+s.size) cap 5-(n+s.size))) 5)) (cs.set i ch')∧
   BRow (some ⟨w.heap.size,0,none⟩) (n+s.size) (grownCap w (n+s.size) cap 5) (l++bl s) ch':=by
  intro cap hc hn
  have hge:n+s.size≤grownCap w (n+s.size) cap 5:=by simp [grownCap,Question.cut]
  have hle:grownCap w (n+s.size) cap 5≤9223372036854775807:=by
   have hlt:=Nat.mod_lt (w.tape w.drawn (.appendCap (n+s.size) cap 5)) (show 0<2 ^ 63-(n+s.size)by omega)
   simp only [grownCap,Question.cut]
   omega
  refine⟨bk w.heap.size 5 (bc (l++bl s)++(Builtin.zeroCells (Value.int .u8 0).cells (grownCap w (n+s.size) cap 5-(n+s.size))).toList),?_,⟨.inr ⟨w.heap.size,_,rfl,by simp [hn,bl_length],by simp [hbl],?_,hle,rfl⟩⟩⟩
  ·have h2:=(hw.drew.alloc (.cells ((bc l).toArray++(Lib.strCells s).toArray++Builtin.zeroCells (Value.int .u8 0).cells (grownCap w (n+s.size) cap 5-(n+s.size))) 5))
   refine Imp.replace hi E _ ?_
   have e1:((bc l).toArray++(Lib.strCells s).toArray++Builtin.zeroCells (Value.int .u8 0).cells (grownCap w (n+s.size) cap 5-(n+s.size)))=⟨bc (l++bl s)++(Builtin.zeroCells (Value.int .u8 0).cells (grownCap w (n+s.size) cap 5-(n+s.size))).toList⟩:=by
    apply Array.ext'
    simp [bc_str,bc]
   rw [e1]at h2 ⊢
   exact h2
  ·rw [zeroCells_len]
   show(l++bl s).length+_*1=_
   rw [List.length_append,bl_length,←hn]
   omega
 rcases hr.h with ⟨rfl,rfl,rfl,rfl,rfl⟩ | ⟨g,tail,rfl,rfl,hne,hlen,hcap,rfl⟩
 ·have hr1:=run_append_nil_string (P:=Tryz.prog) w 110 9 110 5 inf (.int .u8 0) hu hv hinf hz s h0 (by omega) (by rw [hb1];omega)
  obtain⟨ch',g1,g2⟩:=grown 0 (by omega) rfl
  have e1:(s.data.map fun b=>Value.int .u8 b.toNat)=(Lib.strCells s).toArray:=by
   apply Array.ext'
   simp [Lib.strCells]
  rw [e1]at hr1
  simp only [Nat.zero_add,List.nil_append,Array.empty_append,List.map_nil]at g1 g2 hr1 h
  exact⟨_,_,_,hr1,g1,h _ _ _ g2⟩
 ·have hg:=hw.holds _ (mem_flat hi (x:=(g,.cells ⟨bc l++tail⟩ 5 (0,0))) (by simp [bk]))
  by_cases hroom:l.length+s.size≤c
  ·have hr1:=Lib.run_append_room_string (P:=Tryz.prog) w 110 9 110 5 inf hu hv hinf hs1 g l.length c ⟨bc l++tail⟩ hg s hroom (by simp;omega)
   have e1:(((⟨bc l++tail⟩:Array Value).toList.take l.length++Lib.strCells s++(⟨bc l++tail⟩:Array Value).toList.drop (l.length+s.size)).toArray)=⟨bc (l++bl s)++tail.drop s.size⟩:=by
    have e2:(bc l).length=l.length:=by simp
    have e3:(bc l++tail).take l.length=bc l:=by rw [←e2,List.take_left]
    have e4:(bc l++tail).drop (l.length+s.size)=tail.drop s.size:=by rw [←e2,←List.drop_drop,List.drop_left]
    show(List.take l.length (bc l++tail)++Lib.strCells s++List.drop (l.length+s.size) (bc l++tail)).toArray=_
    rw [e3,e4,bc_str]
    simp [bc]
   rw [e1]at hr1
   refine⟨_,_,cs.set i [(g,.cells ⟨bc (l++bl s)++tail.drop s.size⟩ 5 (0,0))],hr1,?_,h _ _ _ ⟨.inr ⟨g,tail.drop s.size,rfl,by simp [bl_length],by simp [hbl],by simp [bl_length];omega,hcap,rfl⟩⟩⟩
   have hlt:g<w.heap.size:=by
    rcases Nat.lt_or_ge g w.heap.size with hh | hh
    ·exact hh
    ·rw [Array.getElem?_eq_none hh]at hg;cases hg
   refine hw.upd hi rfl rfl rfl (by simp [World.setRow]) ?_ ?_
   ·simp [World.setRow,Array.getElem?_modify,hg]
   ·intro k hk _
    have:¬g=k:=fun e=>hk e.symm
    simp [World.setRow,Array.getElem?_modify,this]
  ·have hr1:=Lib.run_append_grow_string (P:=Tryz.prog) w 110 9 110 5 inf (.int .u8 0) hu hv hinf hz (ad g 0) l.length c (bc l) (by simp [hs1]) (fun j v hj=>by
    have hj2:=lt_of_get hj
    rw [add_ad,hw.cell hi,Nat.zero_add,List.getElem?_append_left hj2,hj]) s (by omega) (by omega) (growslice_fits (by omega) (by rw [hb1];omega))
   obtain⟨ch',g1,g2⟩:=grown c (by omega) rfl
   exact⟨_,_,_,hr1,g1,h _ _ _ g2⟩
instance appStr {a:Option Addr} {n c:Nat} {l:List UInt8} {ch:Chunk} {s:ByteArray} {put:Chunk→St} [hr:BRow a n c l ch] [at_:ChAt cs ch put]:Go1 (sm (Builtin.append_ ⟨[110,9]⟩ 110 ⟨[.slice a n c,.string s]⟩) K cs)
  ((0<s.size∧n+s.size≤140737488355328)∧∀a' c' ch',BRow a' (n+s.size) c' (l++bl s) ch'→K (.slice a' (n+s.size) c') (put ch')):=⟨fun⟨⟨h1,h2⟩,h⟩=>by
 obtain⟨k,hk,hput⟩:=at_.h
 exact app_str k hk hr h1 h2 fun a' c' ch' hr'=>by rw [←hput];exact h a' c' ch' hr'⟩
theorem brow_len {a:Option Addr} {n c:Nat} {l:List UInt8} {ch:Chunk} (r:BRow a n c l ch):n=l.length:=by
 rcases r.h with ⟨_,h,_,h2,_⟩ | ⟨g,tail,_,h,_⟩
 ·rw [h,h2];rfl
 ·exact h
theorem str_end {a:Option Addr} {n c:Nat} {l:List UInt8} {ch:Chunk} (i:Nat) (hi:cs[i]? =some ch) (hr:BRow a n c l ch) (h:K (.string (sb l)) (cs.set i [])):
  sm (Builtin.unsafeString_ (Array.mk [221,3]) 9 (Array.mk [.pointer a,.int .i64 (n:Int)])) K cs:=by
 have hpart:Imp cs (ch::cs.set i []):=Imp.part (parts:=[ch]) (by simpa using hi)
 have him:∀E w,Hs E w cs→Hs E w (cs.set i []):=fun E w hw=>(drp (c:=ch::cs.set i []) (c':=cs.set i [])) E w (hpart E w hw)
 rcases hr.h with ⟨rfl,rfl,rfl,rfl,rfl⟩ | ⟨g,tail,rfl,rfl,hne,hlen,hcap,rfl⟩
 ·exact⟨fun E w hw=>⟨_,w,_,Lib.run_unsafeString_none w _ _ _ _,him E w hw,h⟩⟩
 ·have hl0:l.length≠0:=by simpa using hne
  refine⟨fun E w hw=> ?_⟩
  have hg:=hw.holds _ (mem_flat hi (x:=(g,.cells ⟨bc l++tail⟩ 5 (0,0))) (by simp [bk]))
  have hr1:=Lib.run_unsafeString_row (P:=Tryz.prog) w 221 3 9 5 Tryz.underlying221 (by kernel_rfl) g (bc l++tail).length (by simp [World.shape?,hg]) l hne (by simp) (by omega) (fun j x hj=>by
   have hj2:(bc l)[j]? =some (.int .u8 x.toNat):=by simp [bc,hj]
   rw [add_ad,hw.cell hi,Nat.zero_add,List.getElem?_append_left (lt_of_get hj2),hj2])
  refine⟨_,_,_,hr1,?_,h⟩
  have h2:=him E w hw
  have h3:=(hpart E w hw).nodup
  have hnot:g∉(cs.set i []).flatten.map Prod.fst:=by
   simp only [bk,List.cons_append,List.nil_append,List.flatten_cons,List.map_cons,List.nodup_cons]at h3
   exact h3.1
  obtain⟨f,e1⟩:∃f,w.freeze (ad g 0) l.length={w with heap:=w.heap.modify g f}:=⟨_,by unfold World.freeze;rw [if_neg hl0]⟩
  refine⟨?_,?_,?_,?_,fun x hx=> ?_,h2.nodup⟩
  ·rw [e1];exact h2.os
  ·rw [e1];exact h2.out
  ·rw [e1];exact h2.tape
  ·rw [e1];simpa using h2.size
  ·have hne2:¬g=x.1:=fun e=>hnot (List.mem_map.2 ⟨x,hx,e.symm⟩)
   rw [e1]
   simp only [Array.getElem?_modify,if_neg hne2]
   exact h2.holds x hx
instance {a:Option Addr} {n c:Nat} {l:List UInt8} {ch:Chunk} [hr:BRow a n c l ch]:Go1 (qy (Builtin.unsafeSliceData_ (Array.mk [110]) 221 (Array.mk [.slice a n c])) K cs) (K (.pointer a) cs):=⟨fun h=>by
 rcases hr.h with ⟨rfl,rfl,rfl,rfl,rfl⟩ | ⟨g,tail,rfl,rfl,hne,hlen,hcap,rfl⟩
 ·exact⟨.pointer none,fun E w _=>Lib.run_unsafeSliceData_nil _ _ _ _ _,h⟩
 ·have hl0:l.length≠0:=by simpa using hne
  exact⟨.pointer (some (ad g 0)),fun E w _=>Lib.run_unsafeSliceData_row _ _ _ _ _ _ (by omega),h⟩⟩
end
structure Bu where
 a:Option Addr
 n:Nat
 c:Nat
 l:List UInt8
 ch:Chunk
 r:BRow a n c l ch
 used:Bool
def buC (b:Nat) (x:Bu):Chunk:=bk b 112 [.pointer (if x.used then some (ad b 0)else none),.slice x.a x.n x.c]++x.ch
instance buRow (x:Bu):BRow x.a x.n x.c x.l x.ch:=x.r
section
variable {cs:St} {b:Nat} {x:Bu} {put:Chunk→St} {K:Value→SP}
instance c50 [o:Ob buC cs b x put] {s:ByteArray}:Go1 (fn 50 [.pointer (some (ad b 0)),.string s] K cs)
  ((0<s.size∧x.l.length+s.size≤140737488355328)∧∀x',Bu.l x'=x.l++bl s→K (.tuple ⟨[.int .i64 s.size,.nilIface]⟩) (put (buC b x'))):=⟨fun h=>o.fn2 (bk b 112 [.pointer (if x.used then some (ad b 0)else none),.slice x.a x.n x.c]) x.ch rfl fun F=>f50 (by
 obtain⟨⟨h1,h2⟩,h⟩:=h
 have hn:=brow_len x.r
 unfold s50
 cases hu:x.used with
 | true=>
  simp only [if_true]
  refine go ⟨⟨h1,by omega⟩,fun a' c' ch' r=> ?_⟩
  have hh:=h ⟨a',_,c',_,ch',r,true⟩ rfl
  simp only [buC,if_true]at hh
  exact⟨_,_,drp,hh⟩
 | false=>
  simp only [Bool.false_eq_true,if_false]
  refine go ⟨⟨h1,by omega⟩,fun a' c' ch' r=> ?_⟩
  have hh:=h ⟨a',_,c',_,ch',r,true⟩ rfl
  simp only [buC,if_true]at hh
  exact⟨_,_,drp,hh⟩)⟩
instance c51 [o:Ob buC cs b x put]:Go1 (fn 51 [.pointer (some (ad b 0))] K cs) (K (.string (sb x.l)) (put [])):=⟨fun h=>o.fn2 (bk b 112 [.pointer (if x.used then some (ad b 0)else none),.slice x.a x.n x.c]) x.ch rfl fun F=>f51 (by
 unfold s51
 refine go ?_
 refine str_end (ch:=x.ch) 1 rfl x.r ?_
 simp only [List.set_cons_succ,List.set_cons_zero]
 refine go ?_
 exact⟨[],[],drp,h⟩)⟩
end
structure Rg where
 bb:Nat
 buf:List UInt8
 first:Nat
 n:Nat
 h0:0<buf.length
 h1:buf.length≤4096
 h2:first<buf.length
 h3:n≤buf.length
def Rg.q (r:Rg):List UInt8:=(r.buf.drop r.first++r.buf.take r.first).take r.n
def ringC (b:Nat) (r:Rg):Chunk:=bk b 380 [.slice (some (ad r.bb 0)) r.buf.length r.buf.length,.int .i64 r.first,.int .i64 r.n]++bk r.bb 5 (List.map (Value.int .u8) (nb r.buf))
theorem Rg.q_length (r:Rg):r.q.length=r.n:=by have:=r.h3;have:=r.h2;simp [Rg.q];omega
theorem rot_get {l:List UInt8} {f i:Nat} (hf:f<l.length) (hi:i<l.length):(l.drop f++l.take f)[i]? =l[(f+i) % l.length]?:=by
 by_cases h:f+i<l.length
 ·rw [Nat.mod_eq_of_lt h,List.getElem?_append_left (by simp;omega),List.getElem?_drop]
 ·rw [List.getElem?_append_right (by simp;omega),Nat.mod_eq_sub_mod (by omega),Nat.mod_eq_of_lt (by omega),List.getElem?_take_of_lt (by simp;omega)]
  congr 1
  simp;omega
theorem Rg.q_get (r:Rg) {i:Nat} (hi:i<r.n):r.q[i]? =r.buf[(r.first+i) % r.buf.length]?:=by
 unfold Rg.q
 rw [List.getElem?_take_of_lt hi,rot_get r.h2 (by have:=r.h3;omega)]
theorem Rg.q_ext {r:Rg} {l:List UInt8} (hl:l.length=r.n) (h:∀i,i<r.n→r.buf[(r.first+i) % r.buf.length]? =l[i]?):r.q=l:=by
 apply List.ext_getElem?
 intro i
 by_cases hi:i<r.n
 ·rw [r.q_get hi,h i hi]
 ·rw [List.getElem?_eq_none (by rw [r.q_length];omega),List.getElem?_eq_none (by omega)]
section
variable {cs:St} {b:Nat} {r:Rg} {put:Chunk→St} {K:Value→SP}
instance ringRd [o:Ob ringC cs b r put]:RdB cs b 380 [.slice (some (ad r.bb 0)) r.buf.length r.buf.length,.int .i64 r.first,.int .i64 r.n]:=⟨by
 obtain⟨i,h,_⟩:=o.h;exact Rd.in h (by simp [ringC,bk])⟩
instance c230 {x:Int}:Go1 (fn 230 [.int .i64 x] K cs) (∀b r,Rg.q r=[]→r.n=0→(r.buf.length:Int)=min (max x 1) 4096→K (.pointer (some (ad b 0))) (ringC b r::cs)):=⟨fun h=>up0 (f230 (by
 unfold s230
 have e:(if 4096<if 1>x then 1 else x then 4096 else if 1>x then 1 else x)=min (max x 1) 4096:=by omega
 rw [e]
 refine go ?_
 refine⟨by omega,fun bb b=> ?_⟩
 refine fin (c':=ringC b ⟨bb,List.replicate (min (max x 1) 4096).toNat 0,0,0,by simp;omega,by simp;omega,by simp;omega,by simp⟩::cs) (i:= ?_) (h b _ (by simp [Rg.q]) rfl (by simp;omega))
 have:ringC b ⟨bb,List.replicate (min (max x 1) 4096).toNat 0,0,0,by simp;omega,by simp;omega,by simp;omega,by simp⟩ =
   bk b 380 [.slice (some (ad bb 0)) (min (max x 1) 4096).toNat (min (max x 1) 4096).toNat,.int .i64 0,.int .i64 0]++bk bb 5 (List.map (Value.int .u8) (List.replicate (min (max x 1) 4096).toNat 0)):=by
  simp [ringC,nb]
 rw [this]
 exact⟨[],by simp⟩))⟩
instance c248 [o:Ob ringC cs b r put]:Go1 (fn 248 [.pointer (some (ad b 0))] K cs) (K (.int .i64 r.n) cs):=⟨fun h=>f248 (by unfold s248;exact go h)⟩
instance c175 [o:Ob ringC cs b r put]:Go1 (fn 175 [.pointer (some (ad b 0))] K cs) (K (.int .i64 (r.buf.length-r.n:Nat)) cs):=⟨fun h=>f175 (by
 unfold s175;refine go (keq h ?_)
 have:=r.h3;have:=r.h1
 rw [w64_id (by omega)];congr 1;omega)⟩
instance {x:Int}:Go1 (fn 388 [.pointer (some (ad b 0)),.int .i64 x] K cs) (s388 (ad b 0) x K cs):=⟨f388⟩
instance {x:Int}:Go1 (fn 447 [.pointer (some (ad b 0)),.int .i64 x] K cs) (s447 (ad b 0) x K cs):=⟨f447⟩
theorem rg_drop (r:Rg) {k:Nat} (hk:k≤r.n):∃r':Rg,r'.bb=r.bb∧r'.buf=r.buf∧r'.n=r.n-k∧r'.q=r.q.drop k∧r'.first=if r.n-k=0 then 0 else(r.first+k) % r.buf.length:=by
 have h0:=r.h0
 have h3:=r.h3
 refine⟨⟨r.bb,r.buf,if r.n-k=0 then 0 else(r.first+k) % r.buf.length,r.n-k,r.h0,r.h1,?_,by omega⟩,rfl,rfl,rfl,?_,rfl⟩
 ·split
  ·exact h0
  ·exact Nat.mod_lt _ h0
 ·refine Rg.q_ext (by simp [Rg.q_length]) fun i hi=> ?_
  simp only at hi ⊢
  rw [List.getElem?_drop,Rg.q_get r (by omega),if_neg (by omega),Nat.mod_add_mod]
  congr 2
  omega
theorem rg_take (r:Rg) {k:Nat} (hk:k≤r.n):r.q.take k=if r.first+k≤r.buf.length then(r.buf.drop r.first).take k else r.buf.drop r.first++r.buf.take (r.first+k-r.buf.length):=by
 have h2:=r.h2
 have h3:=r.h3
 unfold Rg.q
 rw [List.take_take,Nat.min_eq_left hk]
 split
 ·rw [List.take_append_of_le_length (by simp;omega)]
 ·rw [List.take_append,List.take_of_length_le (by simp;omega),List.take_take]
  congr 2
  simp;omega
instance c446 [d:RdB cs b 380 [.slice (some (ad r.bb 0)) r.buf.length r.buf.length,.int .i64 r.first,.int .i64 r.n]] [e:RdB cs r.bb 5 (List.map (Value.int .u8) (nb r.buf))] {k:Nat}:
  Go1 (fn 446 [.pointer (some (ad b 0)),.int .i64 0,.int .i64 k] K cs) (k≤r.n∧K (.string (sb (r.q.take k))) cs):=⟨fun⟨hk,h⟩=>f446 (by
 unfold s446
 have h0:=r.h0;have h1:=r.h1;have h2:=r.h2;have h3:=r.h3
 refine goj ?_
 have e1:(r.first:Int) % r.buf.length=r.first:=Int.emod_eq_of_lt (by omega) (by omega)
 have e2:w64 ((r.first:Int)+k)=(r.first:Int)+k:=w64_id (by omega)
 have e3:w64 ((r.first:Int)+0)=r.first:=by rw [w64_id (by omega)];omega
 have e4:w64 ((r.first:Int)+k-r.buf.length)=(r.first:Int)+k-r.buf.length:=w64_id (by omega)
 simp only [e1,e2,e3,e4,beq_iff_eq,beq_eq_false_iff_ne,decide_eq_true_eq,decide_eq_false_iff_not]
 refine⟨fun c0=>keq h ?_,fun c0=>⟨by omega,fun c1=>⟨by omega,fun o ho=>⟨by omega,keq h ?_⟩⟩,fun c1=>⟨by omega,fun o ho=>⟨by omega,by omega,by omega,by simp only [sb_size,List.length_take];omega,keq h ?_⟩⟩⟩⟩
 ·have:k=0:=by omega
  subst this;rfl
 ·rw [rg_take r hk,if_pos (by omega),ho (by omega)]
  have:((r.first:Int)+k).toNat-r.first=k:=by omega
  simp [this]
 ·rw [rg_take r hk,if_neg (by omega),ho (by omega)]
  have:((r.first:Int)+k-r.buf.length).toNat=r.first+k-r.buf.length:=by omega
  have e5:r.buf.length-(r.first:Int).toNat=(r.buf.drop r.first).length:=by simp
  rw [this]
  simp only [Nat.zero_add,Nat.mul_one,Int.toNat_natCast,List.drop_zero]at e5 ⊢
  rw [e5,List.take_length]
  rfl)⟩
instance c431 [o:Ob ringC cs b r put] {x:Int}:Go1 (fn 431 [.pointer (some (ad b 0)),.int .i64 x] K cs)
  (∀r':Rg,r'.q=r.q.drop (min (max x 0) r.n).toNat→r'.buf.length=r.buf.length→K (.string (sb (r.q.take (min (max x 0) r.n).toNat))) (put (ringC b r'))):=⟨fun h=>o.fn2 (bk b 380 _) (bk r.bb 5 _) rfl fun F=>f431 (by
 unfold s431
 have e:(if(r.n:Int)<if 0>x then 0 else x then(r.n:Int)else if 0>x then 0 else x)=((min (max x 0) r.n).toNat:Int):=by omega
 have hk:(min (max x 0) r.n).toNat≤r.n:=by omega
 revert h e hk
 generalize (min (max x 0) r.n).toNat=k
 intro h e hk
 have h0:=r.h0;have h1:=r.h1;have h2:=r.h2;have h3:=r.h3
 obtain⟨r',g1,g2,g3,g4,g5⟩:=rg_drop r hk
 have hh:=h r' g4 (by rw [g2])
 refine go ?_
 dsimp only
 rw [e]
 refine go ?_
 have e1:w64 ((r.first:Int)+k) % r.buf.length=((r.first+k) % r.buf.length:Nat):=by rw [w64_id (by omega)];push_cast;rfl
 have e2:w64 ((r.n:Int)-k)=(r.n-k:Nat):=by rw [w64_id (by omega)];omega
 have e3:0≤w64 ((r.first:Int)+k):=by rw [w64_id (by omega)];omega
 simp only [e1,e2,beq_iff_eq,beq_eq_false_iff_ne]
 refine⟨hk,⟨e3,by omega⟩,fun c0=> ?_,fun c0=> ?_⟩
 ·have:ringC b r'=bk b 380 [.slice (some (ad r.bb 0)) r.buf.length r.buf.length,.int .i64 0,.int .i64 (r.n-k:Nat)]++bk r.bb 5 (List.map (Value.int .u8) (nb r.buf)):=by
   unfold ringC;rw [g1,g2,g3,g5,if_pos (by omega)];rfl
  rw [this]at hh;exact⟨_,_,drp,hh⟩
 ·have:ringC b r'=bk b 380 [.slice (some (ad r.bb 0)) r.buf.length r.buf.length,.int .i64 ((r.first+k) % r.buf.length:Nat),.int .i64 (r.n-k:Nat)]++bk r.bb 5 (List.map (Value.int .u8) (nb r.buf)):=by
   unfold ringC;rw [g1,g2,g3,g5,if_neg (by omega)]
  rw [this]at hh;exact⟨_,_,drp,hh⟩)⟩
theorem rg_put (r:Rg) (l:List UInt8) (hk:l.length≤r.buf.length-r.n) (buf':List UInt8) (hb:buf'.length=r.buf.length)
  (hg:∀j,j<r.buf.length→buf'[(r.first+j) % r.buf.length]? =if j<r.n then r.buf[(r.first+j) % r.buf.length]? else if j<r.n+l.length then l[j-r.n]? else r.buf[(r.first+j) % r.buf.length]?):
  ∃r':Rg,r'.bb=r.bb∧r'.buf=buf'∧r'.first=r.first∧r'.n=r.n+l.length∧r'.q=r.q++l:=by
 have h0:=r.h0;have h2:=r.h2;have h3:=r.h3;have h1:=r.h1
 refine⟨⟨r.bb,buf',r.first,r.n+l.length,by omega,by omega,by omega,by omega⟩,rfl,rfl,rfl,rfl,?_⟩
 refine Rg.q_ext (by simp [Rg.q_length]) fun i hi=> ?_
 simp only at hi ⊢
 rw [hb,hg i (by omega)]
 by_cases hin:i<r.n
 ·rw [if_pos hin,List.getElem?_append_left (by rw [Rg.q_length];exact hin),Rg.q_get r hin]
 ·rw [if_neg hin,if_pos hi,List.getElem?_append_right (by rw [Rg.q_length];omega),Rg.q_length]
theorem nb_take (l:List UInt8) (n:Nat):(nb l).take n=nb (l.take n):=by simp [nb,List.map_take]
theorem nb_drop (l:List UInt8) (n:Nat):(nb l).drop n=nb (l.drop n):=by simp [nb,List.map_drop]
theorem nb_append (l r:List UInt8):nb l++nb r=nb (l++r):=by simp [nb]
theorem bl_extract (s:ByteArray) (i j:Nat):bl (s.extract i j)=((bl s).take j).drop i:=by
 simp [bl,ByteArray.data_extract,List.drop_take]
theorem get_splice (l m:List UInt8) (a p:Nat) (h:a+m.length≤l.length):(l.take a++m++l.drop (a+m.length))[p]? =if p<a then l[p]? else if p<a+m.length then m[p-a]? else l[p]?:=by
 have h1:(l.take a).length=a:=by simp;omega
 by_cases c1:p<a
 ·rw [if_pos c1,List.append_assoc,List.getElem?_append_left (by omega),List.getElem?_take_of_lt c1]
 ·rw [if_neg c1]
  by_cases c2:p<a+m.length
  ·rw [if_pos c2,List.getElem?_append_left (by simp;omega),List.getElem?_append_right (by omega),h1]
  ·rw [if_neg c2,List.getElem?_append_right (by simp;omega),List.getElem?_drop]
   congr 1
   simp;omega
theorem mod_small {x n:Nat} (h:x<n+n):x % n=if x<n then x else x-n:=by
 split
 ·exact Nat.mod_eq_of_lt (by assumption)
 ·rw [Nat.mod_eq_sub_mod (by omega),Nat.mod_eq_of_lt (by omega)]
instance c328 [o:Ob ringC cs b r put] {s:ByteArray}:Go1 (fn 328 [.pointer (some (ad b 0)),.string s] K cs)
  (∀r':Rg,r'.q=r.q++(bl s).take (r.buf.length-r.n)→r'.buf.length=r.buf.length→K (.int .i64 (min s.size (r.buf.length-r.n):Nat)) (put (ringC b r'))):=⟨fun h=>o.fn2 (bk b 380 _) (bk r.bb 5 _) rfl fun F=>f328 (by
 unfold s328
 have h0:=r.h0;have h1:=r.h1;have h2:=r.h2;have h3:=r.h3
 refine go ?_
 have e1:w64 ((r.buf.length:Int)-r.n)=(r.buf.length-r.n:Nat):=by rw [w64_id (by omega)];omega
 have hss:(s.size:Int)=((bl s).length:Nat):=rfl
 have e2:(if((r.buf.length-r.n:Nat):Int)<s.size then((r.buf.length-r.n:Nat):Int)else s.size)=(min s.size (r.buf.length-r.n):Nat):=by omega
 have e3:w64 ((r.first:Int)+r.n)=(r.first+r.n:Nat):=by rw [w64_id (by omega)];omega
 have e4:((r.first+r.n:Nat):Int) % r.buf.length=((r.first+r.n) % r.buf.length:Nat):=by push_cast;rfl
 have e5:w64 ((r.n:Int)+(min s.size (r.buf.length-r.n):Nat))=(r.n+min s.size (r.buf.length-r.n):Nat):=by rw [w64_id (by omega)];omega
 simp only [e1,e2,e3,e4,e5,Int.toNat_natCast]
 have ha:(r.first+r.n) % r.buf.length<r.buf.length:=Nat.mod_lt _ h0
 generalize hk:min s.size (r.buf.length-r.n)=k at *
 generalize hat:(r.first+r.n) % r.buf.length=a at *
 have hsz:∀i,(s.extract i k).size=k-i:=fun i=>by rw [←bl_length,bl_extract,List.length_drop,List.length_take,bl_length];omega
 simp only [hsz,Nat.sub_zero]
 have hm:min (k-min k (r.buf.length-a)) r.buf.length=k-min k (r.buf.length-a):=by omega
 rw [hm]
 generalize he:min k (r.buf.length-a)=e at *
 refine⟨⟨by omega,by omega⟩,⟨by omega,by omega,by omega⟩,fun x hx=>⟨⟨by omega,by omega⟩,.inr (by rw [hx ha,nb_length];omega),⟨by omega,by omega,by omega⟩,.inr (by rw [hx ha];simp [nb_length];omega),?_⟩⟩
 rw [hx ha]
 simp only [nb_take,nb_drop,nb_append,bl_extract,List.drop_zero,Nat.zero_add,Nat.mul_one,List.take_zero,List.take_take,List.nil_append]
 have l1:(List.take (min e k) (bl s)).length=e:=by rw [List.length_take,bl_length];omega
 have l2:(List.take (k-e) (List.drop e (List.take k (bl s)))).length=k-e:=by rw [List.length_take,List.length_drop,List.length_take,bl_length];omega
 have g1:∀p,(r.buf.take a++List.take (min e k) (bl s)++r.buf.drop (a+e))[p]? =if p<a then r.buf[p]? else if p<a+e then(List.take (min e k) (bl s))[p-a]? else r.buf[p]?:=fun p=>by
  have:=get_splice r.buf (List.take (min e k) (bl s)) a p (by rw [l1];omega)
  rw [l1]at this;exact this
 have l3:(r.buf.take a++List.take (min e k) (bl s)++r.buf.drop (a+e)).length=r.buf.length:=by
  rw [List.length_append,List.length_append,l1,List.length_take,List.length_drop];omega
 generalize r.buf.take a++List.take (min e k) (bl s)++r.buf.drop (a+e)=b1 at *
 have g2:∀p,(b1.take 0++List.take (k-e) (List.drop e (List.take k (bl s)))++b1.drop (0+(k-e)))[p]? =if p<0 then b1[p]? else if p<0+(k-e)then(List.take (k-e) (List.drop e (List.take k (bl s))))[p-0]? else b1[p]?:=fun p=>by
  have:=get_splice b1 (List.take (k-e) (List.drop e (List.take k (bl s)))) 0 p (by rw [l2];omega)
  rw [l2]at this;exact this
 simp only [List.take_zero,List.nil_append,Nat.zero_add,Nat.not_lt_zero,if_false,Nat.sub_zero]at g2
 have l4:(List.take (k-e) (List.drop e (List.take k (bl s)))++b1.drop (k-e)).length=r.buf.length:=by rw [List.length_append,l2,List.length_drop];omega
 have hbl:=bl_length s
 have lk:(List.take (r.buf.length-r.n) (bl s)).length=k:=by rw [List.length_take,hbl];omega
 generalize hb2:List.take (k-e) (List.drop e (List.take k (bl s)))++b1.drop (k-e)=b2 at *
 obtain⟨r',q1,q2,q3,q4,q5⟩:=rg_put r (List.take (r.buf.length-r.n) (bl s)) (by rw [lk];omega) b2 l4 (fun j hj=>by
  rw [lk,g2,g1]
  have ea:=mod_small (x:=r.first+r.n) (n:=r.buf.length) (by omega)
  have ep:=mod_small (x:=r.first+j) (n:=r.buf.length) (by omega)
  rw [hat]at ea
  generalize (r.first+j) % r.buf.length=p at *
  have hp:p<r.buf.length:=by split at ep <;>omega
  have gs:∀i,i<k→(bl s)[i]? =(List.take (r.buf.length-r.n) (bl s))[i]?:=fun i hi=>by rw [List.getElem?_take_of_lt (by omega)]
  by_cases c1:j<r.n
  ·rw [if_pos c1]
   have n1:¬p<k-e:=by split at ea <;>split at ep <;>omega
   rw [if_neg n1]
   by_cases c2:p<a
   ·rw [if_pos c2]
   ·rw [if_neg c2,if_neg (by split at ea <;>split at ep <;>omega)]
  ·rw [if_neg c1]
   by_cases c2:j<r.n+k
   ·rw [if_pos c2]
    by_cases c3:p<k-e
    ·rw [if_pos c3,List.getElem?_take_of_lt c3,List.getElem?_drop,List.getElem?_take_of_lt (by omega),gs _ (by omega)]
     congr 1
     split at ea <;>split at ep <;>omega
    ·rw [if_neg c3,if_neg (by split at ea <;>split at ep <;>omega),if_pos (by split at ea <;>split at ep <;>omega),List.getElem?_take_of_lt (by split at ea <;>split at ep <;>omega),gs _ (by split at ea <;>split at ep <;>omega)]
     congr 1
     split at ea <;>split at ep <;>omega
   ·rw [if_neg c2,if_neg (by split at ea <;>split at ep <;>omega)]
    by_cases c3:p<a
    ·rw [if_pos c3]
    ·rw [if_neg c3,if_neg (by split at ea <;>split at ep <;>omega)])
 have hh:=h r' q5 (by rw [q2];exact l4)
 have:ringC b r'=bk b 380 [.slice (some (ad r.bb 0)) r.buf.length r.buf.length,.int .i64 r.first,.int .i64 (r.n+k:Nat)]++bk r.bb 5 (List.map (Value.int .u8) (nb b2)):=by
  unfold ringC;rw [q1,q2,q3,q4,lk,l4]
 rw [this]at hh
 exact⟨_,_,drp,hh⟩)⟩
end
def pendC (b:Nat) (x:Wtr×Int):Chunk:=bk b 382 [.int .i64 x.1.out,.string x.1.text,.int .i64 x.1.sent,.int .i64 x.1.laid,.int .i64 x.2]
theorem bs_nil:bs []=ByteArray.empty:=rfl
section
variable {cs:St} {b:Nat} {p:Wtr} {m:Int} {put:Chunk→St} {K:Value→SP}
instance pendRd [o:Ob pendC cs b (p,m) put]:RdB cs b 382 [.int .i64 p.out,.string p.text,.int .i64 p.sent,.int .i64 p.laid,.int .i64 m]:=⟨by
 obtain⟨i,h,_⟩:=o.h;exact Rd.in h (by simp [pendC,bk])⟩
instance c232 {x:Int}:Go1 (fn 232 [.int .i64 x] K cs) (∀b,K (.pointer (some (ad b 0))) (pendC b (Wtr.new x,0)::cs)):=⟨fun h=>f232 (by
 unfold s232;refine go fun b=> ?_
 have e:(if 4096<if 1>x then 1 else x then 4096 else if 1>x then 1 else x)=min (max x 1) 4096:=by omega
 rw [e];exact h b)⟩
instance c334 [o:Ob pendC cs b (p,m) put]:Go1 (fn 334 [.pointer (some (ad b 0))] K cs) (p.Ok∧K (.int .i64 p.left) cs):=⟨fun h=>f334 (by
 unfold s334;refine go (keq h.2 ?_)
 obtain⟨h0,h1,h2,h3,h4,h5⟩:=h.1
 rw [w64_id (by omega)];rfl)⟩
instance c250 [o:Ob pendC cs b (p,m) put]:Go1 (fn 250 [.pointer (some (ad b 0))] K cs) (p.Ok∧K (.int .i64 p.rest) cs):=⟨fun h=>f250 (by
 unfold s250;refine go (keq h.2 ?_)
 obtain⟨h0,h1,h2,h3,h4,h5⟩:=h.1
 rw [w64_id (by omega)];rfl)⟩
instance c176 [o:Ob pendC cs b (p,m) put]:Go1 (fn 176 [.pointer (some (ad b 0))] K cs) (p.Ok∧K (.string p.peek) cs):=⟨fun h=>f176 (by
 unfold s176;obtain⟨h0,h1,h2,h3,h4,h5⟩:=h.1
 exact go ⟨by omega,h.2⟩)⟩
instance c324 [o:Ob pendC cs b (p,m) put] {s:ByteArray}:Go1 (fn 324 [.pointer (some (ad b 0)),.string s] K cs) (K undef (put (pendC b (p.begin s,0)))):=⟨fun h=>o.fn1 (bk b 382 [.int .i64 p.out,.string p.text,.int .i64 p.sent,.int .i64 p.laid,.int .i64 m]) rfl fun F=>f324 (by
 unfold s324;refine go ?_;simp only [pendC,Wtr.begin]at h;exact⟨_,drp,h⟩)⟩
instance c417 [o:Ob pendC cs b (p,m) put]:Go1 (fn 417 [.pointer (some (ad b 0))] K cs) (p.Ok∧K (.int .i64 p.loads) (put (pendC b (p.load,m)))):=⟨fun h=>o.fn1 (bk b 382 [.int .i64 p.out,.string p.text,.int .i64 p.sent,.int .i64 p.laid,.int .i64 m]) rfl fun F=>f417 (by
 obtain⟨⟨h0,h1,h2,h3,h4,h5⟩,h⟩:=h
 unfold s417;refine goj ?_
 have e1:w64 ((p.text.size:Int)-p.laid)=p.text.size-p.laid:=w64_id (by omega)
 rw [e1]
 have e2:(if p.out<(p.text.size:Int)-p.laid then p.out else(p.text.size:Int)-p.laid)=min (p.text.size-p.laid) p.out:=by omega
 rw [e2,w64_id (by omega)]
 simp only [decide_eq_true_eq,decide_eq_false_iff_not]
 refine⟨fun c=> ?_,fun c=> ?_⟩
 ·have e:p.loads=0:=if_pos c
  simp only [pendC,Wtr.load,e,Int.add_zero]at h
  exact⟨_,drp,h⟩
 ·have e:p.loads=min (p.text.size-p.laid) p.out:=if_neg c
  simp only [pendC,Wtr.load,e]at h
  exact⟨_,drp,h⟩)⟩
instance c329 [o:Ob pendC cs b (p,m) put] {n:Int}:Go1 (fn 329 [.pointer (some (ad b 0)),.int .i64 n] K cs) (p.Ok∧∀m',K (.string (p.taken n)) (put (pendC b (p.take n,m')))):=⟨fun h=>o.fn1 (bk b 382 [.int .i64 p.out,.string p.text,.int .i64 p.sent,.int .i64 p.laid,.int .i64 m]) rfl fun F=>f329 (by
 obtain⟨⟨h0,h1,h2,h3,h4,h5⟩,h⟩:=h
 unfold s329;refine goj ?_
 have e1:w64 (p.laid-p.sent)=p.laid-p.sent:=w64_id (by omega)
 rw [e1]
 have e2:(if p.laid-p.sent<if 0>n then 0 else n then p.laid-p.sent else if 0>n then 0 else n)=min (max n 0) (p.laid-p.sent):=by omega
 rw [e2,w64_id (by omega)]
 simp only [beq_iff_eq,beq_eq_false_iff_ne,decide_eq_true_eq,decide_eq_false_iff_not]
 refine⟨fun c=> ?_,fun c=>⟨fun c1=>⟨by omega,?_⟩,fun c1=>⟨by omega,?_⟩⟩⟩
 ·have e:p.taken n= .empty:=if_pos c
  have h9:p.upto n=p.sent:=by simp only [Wtr.upto];omega
  have e2:p.take n=p:=by unfold Wtr.take;rw [h9]
  have:=h m
  rw [e,e2]at this
  simp only [pendC]at this
  exact⟨_,drp,this⟩
 ·have e:p.taken n=p.text.extract p.sent.toNat (p.upto n).toNat:=if_neg c
  have:=h (w64 (m+1))
  rw [e]at this
  simp only [pendC,Wtr.take,Wtr.upto]at this ⊢
  exact⟨_,drp,this⟩
 ·have e:p.taken n=p.text.extract p.sent.toNat (p.upto n).toNat:=if_neg c
  have:=h m
  rw [e]at this
  simp only [pendC,Wtr.take,Wtr.upto]at this ⊢
  exact⟨_,drp,this⟩)⟩
end
def qat (q:List Nat) (k:Int):Int:=if 0≤k∧k<q.length then(q.getD k.toNat 0:Nat)else -1
theorem qat_in {q:List Nat} {k:Nat} (h:k<q.length):qat q k=(q[k]:Nat):=by
 unfold qat
 rw [if_pos (by omega),Int.toNat_natCast,List.getD_eq_getElem?_getD,List.getElem?_eq_getElem h];rfl
theorem qat_out {q:List Nat} {k:Int} (h:k<0∨q.length≤k):qat q k= -1:=by unfold qat;rw [if_neg (by omega)]
theorem qat_ge (q:List Nat) (k:Int): -1≤qat q k:=by unfold qat;split <;>omega
theorem qat_nil (k:Int):qat [] k= -1:=by unfold qat;rw [if_neg (by simp)]
structure Ff where
 bn:Nat
 bp:Nat
 bi:Nat
 next:List Int
 prev:List Int
 inn:List Bool
 q:List Nat
 h1:next.length=inn.length
 h2:prev.length=inn.length
 h3:inn.length≤1024
 nd:q.Nodup
 lt:∀i∈q,i<inn.length
 hi:∀i,i<inn.length→inn.getD i false=decide (i∈q)
 hn:∀k,(h:k<q.length)→next.getD q[k] 0=qat q (k+1)
 hp:∀k,(h:k<q.length)→prev.getD q[k] 0=qat q (k-1)
def fifoC (b:Nat) (f:Ff):Chunk:=bk b 350 [.slice (some (ad f.bn 0)) f.inn.length f.inn.length,.slice (some (ad f.bp 0)) f.inn.length f.inn.length,.slice (some (ad f.bi 0)) f.inn.length f.inn.length,.int .i64 (qat f.q 0),.int .i64 (qat f.q (f.q.length-1)),.int .i64 f.q.length] ++
 (bk f.bn 3 (List.map (Value.int .i64) f.next)++(bk f.bp 3 (List.map (Value.int .i64) f.prev)++bk f.bi 4 (List.map Value.bool f.inn)))
theorem nodup_len_lt {q:List Nat} {n:Nat} (h:q.Nodup) (hl:∀i∈q,i<n):q.length≤n:=by
 have:=nodup_len (m:=List.range n) h fun i hi=>List.mem_range.2 (hl i hi)
 simpa using this
section
variable {cs:St} {b:Nat} {f:Ff} {put:Chunk→St} {K:Value→SP}
instance {x:Int}:Go1 (fn 339 [.pointer (some (ad b 0)),.int .i64 x] K cs) (s339 (ad b 0) x K cs):=⟨f339⟩
instance c138 {x:Int}:Go1 (fn 138 [.int .i64 x] K cs) (∀b f,Ff.q f=[]→(f.inn.length:Int)=min (max x 1) 1024→K (.pointer (some (ad b 0))) (fifoC b f::cs)):=⟨fun h=>up0 (f138 (by
 unfold s138
 have e:(if 1024<if 1>x then 1 else x then 1024 else if 1>x then 1 else x)=min (max x 1) 1024:=by omega
 rw [e]
 have key:∀b bn bp bi,K (.pointer (some (ad b 0))) ((bk b 350 [.slice (some (ad bn 0)) (min (max x 1) 1024).toNat (min (max x 1) 1024).toNat,.slice (some (ad bp 0)) (min (max x 1) 1024).toNat (min (max x 1) 1024).toNat,.slice (some (ad bi 0)) (min (max x 1) 1024).toNat (min (max x 1) 1024).toNat,.int .i64 (-1),.int .i64 (-1),.int .i64 0] ++
   (bk bn 3 (List.map (Value.int .i64) (List.replicate (min (max x 1) 1024).toNat 0))++(bk bp 3 (List.map (Value.int .i64) (List.replicate (min (max x 1) 1024).toNat 0))++bk bi 4 (List.map Value.bool (List.replicate (min (max x 1) 1024).toNat false)))))::cs):=by
  intro b bn bp bi
  have:=h b ⟨bn,bp,bi,List.replicate (min (max x 1) 1024).toNat 0,List.replicate (min (max x 1) 1024).toNat 0,List.replicate (min (max x 1) 1024).toNat false,[],by simp,by simp,by simp;omega,.nil,fun i hi=>(by cases hi),fun i hi=>by simp [List.getD_eq_getElem?_getD,List.getElem?_replicate];split <;>rfl,fun k hk=>absurd hk (Nat.not_lt_zero _),fun k hk=>absurd hk (Nat.not_lt_zero _)⟩ rfl (by simp;omega)
  simpa [fifoC,qat_nil]using this
 have key2:∀{b bn bp bi:Nat} {c:St},Drp c (bk bn 3 (List.map (Value.int .i64) (List.replicate (min (max x 1) 1024).toNat 0))::bk bp 3 (List.map (Value.int .i64) (List.replicate (min (max x 1) 1024).toNat 0))::bk bi 4 (List.map Value.bool (List.replicate (min (max x 1) 1024).toNat false))::cs)→
   Up K (.pointer (some (ad b 0))) (bk b 350 [.slice (some (ad bn 0)) (min (max x 1) 1024).toNat (min (max x 1) 1024).toNat,.slice (some (ad bp 0)) (min (max x 1) 1024).toNat (min (max x 1) 1024).toNat,.slice (some (ad bi 0)) (min (max x 1) 1024).toNat (min (max x 1) 1024).toNat,.int .i64 (-1),.int .i64 (-1),.int .i64 0]::c):=
  fun{b bn bp bi _} d=>⟨_,by
   obtain⟨l,hl⟩:=d.h
   refine Imp.of_sub (l:=l) ?_
   simp only [List.flatten_cons,List.append_assoc]at hl ⊢
   exact List.Perm.append_left _ hl,key b bn bp bi⟩
 refine go ?_
 repeat' (first | apply And.intro | intro _)
 all_goals first | omega | exact key2 inferInstance))⟩
instance fifoRd [o:Ob fifoC cs b f put]:RdB cs b 350 [.slice (some (ad f.bn 0)) f.inn.length f.inn.length,.slice (some (ad f.bp 0)) f.inn.length f.inn.length,.slice (some (ad f.bi 0)) f.inn.length f.inn.length,.int .i64 (qat f.q 0),.int .i64 (qat f.q (f.q.length-1)),.int .i64 f.q.length]:=⟨by
 obtain⟨i,h,_⟩:=o.h;exact Rd.in h (by simp [fifoC,bk])⟩
theorem ff_len (f:Ff):f.q.length≤1024:=Nat.le_trans (nodup_len_lt f.nd f.lt) f.h3
theorem getD_set' {α:Type} (l:List α) (i j:Nat) (v d:α) (h:i<l.length):(l.set i v).getD j d=if i=j then v else l.getD j d:=by
 simp only [List.getD_eq_getElem?_getD,List.getElem?_set]
 by_cases e:i=j
 ·subst e;simp [h]
 ·simp [e]
theorem qat_app (q:List Nat) (i:Nat) (k:Int):qat (q++[i]) k=if k=q.length then(i:Int)else qat q k:=by
 unfold qat
 by_cases h:k=q.length
 ·subst h
  rw [if_pos (by simp;omega),if_pos rfl]
  simp [List.getD_eq_getElem?_getD]
 ·rw [if_neg h]
  by_cases h2:0≤k∧k<q.length
  ·rw [if_pos (by simp;omega),if_pos h2]
   simp only [List.getD_eq_getElem?_getD]
   rw [List.getElem?_append_left (by omega)]
  ·rw [if_neg (by simp;omega),if_neg h2]
def ffPush (f:Ff) (i:Nat) (hi:i<f.inn.length) (hq:i∉f.q):Ff where
 bn:=f.bn
 bp:=f.bp
 bi:=f.bi
 next:=if f.q=[]then f.next.set i (-1)else(f.next.set i (-1)).set (qat f.q (f.q.length-1)).toNat i
 prev:=f.prev.set i (qat f.q (f.q.length-1))
 inn:=f.inn.set i true
 q:=f.q++[i]
 h1:=by split <;>simp [f.h1]
 h2:=by simp [f.h2]
 h3:=by simp [f.h3]
 nd:=by rw [List.nodup_append];exact⟨f.nd,by simp,fun a ha b hb=>by simp at hb;subst hb;exact fun e=>hq (e▸ha)⟩
 lt:=fun j hj=>by simp at hj ⊢;rcases hj with hj | rfl;exact f.lt j hj;exact hi
 hi:=fun j hj=>by
  simp only [List.length_set]at hj
  rw [getD_set' _ _ _ _ _ hi]
  by_cases e:i=j
  ·subst e;simp
  ·rw [if_neg e,f.hi j hj]
   have:¬j=i:=fun x=>e x.symm
   simp [this]
 hn:=fun k hk=>by
  have hl:i<f.next.length:=by rw [f.h1];exact hi
  simp only [List.length_append,List.length_singleton]at hk
  rw [qat_app]
  by_cases hkq:k<f.q.length
  ·have hne:f.q≠[]:=fun e=>by rw [e]at hkq;simp at hkq
   rw [if_neg hne]
   simp only [List.getElem_append_left hkq]
   have hlast:qat f.q (f.q.length-1)=(f.q[f.q.length-1]:Nat):=by
    have:=qat_in (q:=f.q) (k:=f.q.length-1) (by omega)
    rw [←this];congr 1;omega
   rw [hlast,Int.toNat_natCast]
   have hll:f.q[f.q.length-1]<(f.next.set i (-1)).length:=by simp;rw [f.h1];exact f.lt _ (List.getElem_mem _)
   rw [getD_set' _ _ _ _ _ hll,getD_set' _ _ _ _ _ hl]
   have hni:¬i=f.q[k]:=fun e=>hq (e▸List.getElem_mem _)
   by_cases e:k=f.q.length-1
   ·subst e
    rw [if_pos rfl,if_pos (by omega)]
   ·have hne2:¬f.q[f.q.length-1]=f.q[k]:=fun h=>e (by have:=(List.getElem_inj f.nd).1 h;omega)
    rw [if_neg hne2,if_neg hni,if_neg (by omega),f.hn k hkq]
  ·have hk':k=f.q.length:=by omega
   subst hk'
   have hne:¬((f.q.length:Int)+1=f.q.length):=by omega
   rw [if_neg hne,qat_out (k:=(f.q.length:Int)+1) (.inr (by omega))]
   simp only [List.getElem_concat_length]
   split
   ·rw [getD_set' _ _ _ _ _ hl,if_pos rfl]
   ·rename_i hne
    have hpos:0<f.q.length:=List.length_pos_iff.2 hne
    have hlast:qat f.q (f.q.length-1)=(f.q[f.q.length-1]:Nat):=by
     have:=qat_in (q:=f.q) (k:=f.q.length-1) (by omega)
     rw [←this];congr 1;omega
    rw [hlast,Int.toNat_natCast]
    have hll:f.q[f.q.length-1]<(f.next.set i (-1)).length:=by simp;rw [f.h1];exact f.lt _ (List.getElem_mem _)
    have hni:¬f.q[f.q.length-1]=i:=fun e=>hq (e▸List.getElem_mem _)
    rw [getD_set' _ _ _ _ _ hll,if_neg hni,getD_set' _ _ _ _ _ hl,if_pos rfl]
 hp:=fun k hk=>by
  have hl:i<f.prev.length:=by rw [f.h2];exact hi
  simp only [List.length_append,List.length_singleton]at hk
  rw [qat_app]
  by_cases hkq:k<f.q.length
  ·simp only [List.getElem_append_left hkq]
   have hni:¬i=f.q[k]:=fun e=>hq (e▸List.getElem_mem _)
   rw [getD_set' _ _ _ _ _ hl,if_neg hni,if_neg (by omega),f.hp k hkq]
  ·have hk':k=f.q.length:=by omega
   subst hk'
   simp only [List.getElem_concat_length]
   rw [getD_set' _ _ _ _ _ hl,if_pos rfl,if_neg (by omega)]
theorem qat_last {q:List Nat} (h:q≠[]):qat q (q.length-1)=(q[q.length-1]'(by have:=List.length_pos_iff.2 h;omega):Nat):=by
 have hp:=List.length_pos_iff.2 h
 have:=qat_in (q:=q) (k:=q.length-1) (by omega)
 rw [←this];congr 1;omega
theorem qat_lt (f:Ff) (k:Int):qat f.q k<f.inn.length∨qat f.q k= -1:=by
 unfold qat
 split
 ·rename_i h
  left
  have hk:k.toNat<f.q.length:=by omega
  rw [List.getD_eq_getElem?_getD,List.getElem?_eq_getElem hk]
  have:=f.lt _ (List.getElem_mem hk)
  simp only [Option.getD_some]
  omega
 ·exact .inr rfl
abbrev ffP (b:Nat) (f:Ff):Chunk:=bk b 350 [.slice (some (ad f.bn 0)) f.inn.length f.inn.length,.slice (some (ad f.bp 0)) f.inn.length f.inn.length,.slice (some (ad f.bi 0)) f.inn.length f.inn.length,.int .i64 (qat f.q 0),.int .i64 (qat f.q (f.q.length-1)),.int .i64 f.q.length]
instance c259 [o:Ob fifoC cs b f put] {x:Int}:Go1 (fn 259 [.pointer (some (ad b 0)),.int .i64 x] K cs)
  ((0≤x∧x<f.inn.length)∧(x.toNat∈f.q→K (.bool false) cs)∧(x.toNat∉f.q→∀f':Ff,f'.q=f.q++[x.toNat]→f'.inn.length=f.inn.length→K (.bool true) (put (fifoC b f')))):=⟨fun h=>by
 obtain⟨⟨hx0,hx1⟩,hin,hout⟩:=h
 have hi:=f.hi x.toNat (by omega)
 have h1:=f.h1;have h2:=f.h2;have hl:=ff_len f
 refine o.fn4 (ffP b f) (bk f.bn 3 (List.map (Value.int .i64) f.next)) (bk f.bp 3 (List.map (Value.int .i64) f.prev)) (bk f.bi 4 (List.map Value.bool f.inn)) rfl fun F=>f259 ?_
 unfold s259
 refine goj ?_
 simp only [ge_iff_le,decide_eq_true_eq,decide_eq_false_iff_not,Bool.not_eq_true',Bool.not_eq_false',beq_iff_eq,beq_eq_false_iff_ne]
 have e1:w64 ((f.q.length:Int)+1)=(f.q.length+1:Nat):=by rw [w64_id (by omega)];omega
 rw [e1]
 have hxx:((x.toNat:Nat):Int)=x:=by omega
 refine⟨fun _=>⟨fun c=>absurd hx1 c,fun _=>⟨⟨hx0,hx1⟩,by omega,fun c=> ?_,fun c=>⟨⟨hx0,hx1⟩,by omega,⟨hx0,hx1⟩,by omega,⟨hx0,hx1⟩,by omega,fun c1=> ?_,fun c1=> ?_⟩⟩⟩,fun c=>absurd hx0 c⟩
 ·rw [hi]at c
  have:=hin (of_decide_eq_true c)
  rw [←o.same]at this
  exact⟨_,_,_,_,drp,this⟩
 ·rw [hi]at c
  have hq:x.toNat∉f.q:=of_decide_eq_false c
  have hne:f.q=[]:=Classical.byContradiction fun hh=>by rw [qat_last hh]at c1;omega
  have hh:=hout hq (ffPush f x.toNat (by omega) hq) rfl (by simp [ffPush])
  have a1:qat (f.q++[x.toNat]) 0=x:=by rw [qat_app,hne];simp;omega
  have a2:qat (f.q++[x.toNat]) (((f.q.length+1:Nat):Int)-1)=x:=by rw [qat_app,if_pos (by omega)];exact hxx
  simp only [fifoC,ffPush,List.length_append,List.length_singleton,List.length_set,a1,a2]at hh
  rw [if_pos hne]at hh
  exact⟨_,_,_,_,drp,hh⟩
 ·rw [hi]at c
  have hq:x.toNat∉f.q:=of_decide_eq_false c
  have hne:f.q≠[]:=fun hh=>by rw [hh,qat_nil]at c1;exact c1 rfl
  have hpos:=List.length_pos_iff.2 hne
  have hh:=hout hq (ffPush f x.toNat (by omega) hq) rfl (by simp [ffPush])
  have a1:qat (f.q++[x.toNat]) 0=qat f.q 0:=by rw [qat_app,if_neg (by omega)]
  have a2:qat (f.q++[x.toNat]) (((f.q.length+1:Nat):Int)-1)=x:=by rw [qat_app,if_pos (by omega)];exact hxx
  have a3:=qat_lt f (f.q.length-1)
  have a4:=qat_ge f.q (f.q.length-1)
  simp only [fifoC,ffPush,List.length_append,List.length_singleton,List.length_set,a1,a2,hxx]at hh
  rw [if_neg hne]at hh
  refine⟨⟨by omega,by omega⟩,by simp only [List.length_set];omega,⟨_,_,_,_,drp,hh⟩⟩⟩
theorem erase_idx (x:Nat):∀q:List Nat,q.eraseIdx (q.idxOf x)=q.erase x
 | []=>rfl
 | a::q=>by
  rw [List.idxOf_cons,List.erase_cons]
  cases h:a == x
  ·simp [erase_idx x q]
  ·simp
theorem get_erase {q:List Nat} {k j:Nat} (hj:j<(q.eraseIdx k).length) (hk:k<q.length):(q.eraseIdx k)[j]=if h:j<k then q[j]'(by omega)else q[j+1]'(by rw [List.length_eraseIdx_of_lt hk]at hj;omega):=by
 rw [List.getElem_eraseIdx]
theorem qat_erase {q:List Nat} {k:Nat} (hk:k<q.length) (j:Int) (hj:0≤j):qat (q.eraseIdx k) j=if j<k then qat q j else qat q (j+1):=by
 have hl:(q.eraseIdx k).length=q.length-1:=List.length_eraseIdx_of_lt hk
 by_cases h:j<q.length-1
 ·have h1:=qat_in (q:=q.eraseIdx k) (k:=j.toNat) (by omega)
  rw [show((j.toNat:Nat):Int)=j by omega]at h1
  rw [h1,get_erase _ hk]
  by_cases c:j<k
  ·rw [if_pos c,dif_pos (by omega)]
   have h2:=qat_in (q:=q) (k:=j.toNat) (by omega)
   rw [show((j.toNat:Nat):Int)=j by omega]at h2
   rw [h2]
  ·rw [if_neg c,dif_neg (by omega)]
   have h2:=qat_in (q:=q) (k:=j.toNat+1) (by omega)
   rw [show((j.toNat+1:Nat):Int)=j+1 by omega]at h2
   rw [h2]
 ·rw [qat_out (.inr (by omega)),if_neg (by omega),qat_out (.inr (by omega))]
def ffCut (f:Ff) (k:Nat) (hk:k<f.q.length):Ff where
 bn:=f.bn
 bp:=f.bp
 bi:=f.bi
 next:=if qat f.q (k-1)= -1 then f.next else f.next.set (qat f.q (k-1)).toNat (qat f.q (k+1))
 prev:=if qat f.q (k+1)= -1 then f.prev else f.prev.set (qat f.q (k+1)).toNat (qat f.q (k-1))
 inn:=f.inn.set f.q[k] false
 q:=f.q.eraseIdx k
 h1:=by split <;>simp [f.h1]
 h2:=by split <;>simp [f.h2]
 h3:=by simp [f.h3]
 nd:=f.nd.sublist (List.eraseIdx_sublist _ _)
 lt:=fun j hj=>by rw [List.length_set];exact f.lt j ((List.eraseIdx_sublist _ _).subset hj)
 hi:=fun j hj=>by
  rw [List.length_set]at hj
  rw [getD_set' _ _ _ _ _ (f.lt _ (List.getElem_mem hk)),f.hi j hj]
  have hm:∀j,j∈f.q.eraseIdx k↔j∈f.q∧j≠f.q[k]:=fun j=>by
   rw [List.mem_eraseIdx_iff_getElem]
   constructor
   ·rintro⟨i,hi,hne,rfl⟩
    exact⟨List.getElem_mem hi,fun e=>hne ((List.getElem_inj f.nd).1 e)⟩
   ·rintro⟨hj,hne⟩
    obtain⟨i,hi,rfl⟩:=List.getElem_of_mem hj
    exact⟨i,hi,fun e=>hne (by subst e;rfl),rfl⟩
  by_cases e:f.q[k]=j
  ·rw [if_pos e];exact(decide_eq_false fun h=>((hm j).1 h).2 e.symm).symm
  ·rw [if_neg e]
   have:(j∈f.q)↔j∈f.q.eraseIdx k:=by rw [hm];exact⟨fun h=>⟨h,fun x=>e x.symm⟩,fun h=>h.1⟩
   exact decide_eq_decide.2 this
 hn:=fun j hj=>by
  have hl:(f.q.eraseIdx k).length=f.q.length-1:=List.length_eraseIdx_of_lt hk
  rw [get_erase hj hk,qat_erase hk _ (by omega)]
  by_cases c0:k=0
  ·subst c0
   rw [if_pos (qat_out (.inl (by omega))),dif_neg (by omega),if_neg (by omega)]
   exact f.hn (j+1) (by omega)
  ·have ha:qat f.q ((k:Int)-1)=(f.q[k-1]'(by omega):Nat):=by
    have:=qat_in (q:=f.q) (k:=k-1) (by omega)
    rw [←this];congr 1;omega
   rw [ha,if_neg (by omega),Int.toNat_natCast]
   have hlt:f.q[k-1]'(by omega)<f.next.length:=by rw [f.h1];exact f.lt _ (List.getElem_mem _)
   rw [getD_set' _ _ _ _ _ hlt]
   by_cases c1:j<k
   ·rw [dif_pos c1]
    by_cases c2:j=k-1
    ·subst c2
     rw [if_pos rfl,if_neg (by omega)]
     congr 1;omega
    ·rw [if_neg (fun e=>c2 ((List.getElem_inj f.nd).1 e).symm),if_pos (by omega)]
     exact f.hn j (by omega)
   ·rw [dif_neg c1,if_neg (fun e=>by have:=(List.getElem_inj f.nd).1 e;omega),if_neg (by omega)]
    exact f.hn (j+1) (by omega)
 hp:=fun j hj=>by
  have hl:(f.q.eraseIdx k).length=f.q.length-1:=List.length_eraseIdx_of_lt hk
  rw [get_erase hj hk]
  have hqj:qat (f.q.eraseIdx k) ((j:Int)-1)=if j=0 then -1 else if j-1<k then qat f.q ((j:Int)-1)else qat f.q j:=by
   by_cases c:j=0
   ·rw [if_pos c,qat_out (.inl (by omega))]
   ·rw [if_neg c,qat_erase hk _ (by omega)]
    by_cases c2:j-1<k
    ·rw [if_pos (by omega),if_pos c2]
    ·rw [if_neg (by omega),if_neg c2];congr 1;omega
  rw [hqj]
  have hp1:∀i,(h:i<f.q.length)→f.prev.getD f.q[i] 0=if i=0 then -1 else qat f.q ((i:Int)-1):=fun i h=>by
   rw [f.hp i h]
   by_cases c:i=0
   ·rw [if_pos c,qat_out (.inl (by omega))]
   ·rw [if_neg c]
  by_cases c0:k+1=f.q.length
  ·rw [if_pos (qat_out (.inr (by omega))),dif_pos (by omega),hp1 j (by omega)]
   by_cases c:j=0
   ·rw [if_pos c,if_pos c]
   ·rw [if_neg c,if_neg c,if_pos (by omega)]
  ·have ha:qat f.q ((k:Int)+1)=(f.q[k+1]'(by omega):Nat):=qat_in (q:=f.q) (k:=k+1) (by omega)
   rw [ha,if_neg (by omega),Int.toNat_natCast]
   have hlt:f.q[k+1]'(by omega)<f.prev.length:=by rw [f.h2];exact f.lt _ (List.getElem_mem _)
   rw [getD_set' _ _ _ _ _ hlt]
   by_cases c1:j<k
   ·rw [dif_pos c1,if_neg (fun e=>by have:=(List.getElem_inj f.nd).1 e;omega),hp1 j (by omega)]
    by_cases c:j=0
    ·rw [if_pos c,if_pos c]
    ·rw [if_neg c,if_neg c,if_pos (by omega)]
   ·rw [dif_neg c1]
    by_cases c2:j=k
    ·subst c2
     rw [if_pos rfl]
     by_cases c:j=0
     ·rw [if_pos c];exact qat_out (.inl (by omega))
     ·rw [if_neg c,if_pos (by omega)]
    ·rw [if_neg (fun e=>by have:=(List.getElem_inj f.nd).1 e;omega),hp1 (j+1) (by omega),if_neg (by omega),if_neg (by omega),if_neg (by omega)]
     congr 1;omega
instance c331 [o:Ob fifoC cs b f put] {x:Int}:Go1 (fn 331 [.pointer (some (ad b 0)),.int .i64 x] K cs)
  (∃k,∃h:k<f.q.length,x=(f.q[k]:Nat)∧∀f':Ff,f'.q=f.q.eraseIdx k→f'.inn.length=f.inn.length→K undef (put (fifoC b f'))):=⟨fun h=>by
 obtain⟨k,hk,rfl,h⟩:=h
 have hh:=h (ffCut f k hk) rfl (by simp [ffCut])
 have h1:=f.h1;have h2:=f.h2;have hl:=ff_len f
 have hx:=f.lt _ (List.getElem_mem hk)
 refine o.fn4 (ffP b f) (bk f.bn 3 (List.map (Value.int .i64) f.next)) (bk f.bp 3 (List.map (Value.int .i64) f.prev)) (bk f.bi 4 (List.map Value.bool f.inn)) rfl fun F=>f331 ?_
 unfold s331
 refine goj ?_
 have g1:f.prev.getD ((f.q[k]:Nat):Int).toNat 0=qat f.q (k-1):=by rw [Int.toNat_natCast];exact f.hp k hk
 have g2:f.next.getD ((f.q[k]:Nat):Int).toNat 0=qat f.q (k+1):=by rw [Int.toNat_natCast];exact f.hn k hk
 have e1:w64 ((f.q.length:Int)-1)=(f.q.length-1:Nat):=by rw [w64_id (by omega)];omega
 simp only [g1,g2,e1,beq_iff_eq,beq_eq_false_iff_ne]
 have hle:(f.q.eraseIdx k).length=f.q.length-1:=List.length_eraseIdx_of_lt hk
 have a1:qat (f.q.eraseIdx k) 0=if k=0 then qat f.q 1 else qat f.q 0:=by
  rw [qat_erase hk _ (by omega)]
  by_cases c:k=0
  ·rw [if_pos c,if_neg (by omega)];rfl
  ·rw [if_neg c,if_pos (by omega)]
 have a2:qat (f.q.eraseIdx k) (((f.q.length-1:Nat):Int)-1)=if k+1=f.q.length then qat f.q ((k:Int)-1)else qat f.q (f.q.length-1):=by
  by_cases c0:f.q.length=1
  ·rw [if_pos (by omega),qat_out (.inl (by omega)),qat_out (.inl (by omega))]
  ·rw [qat_erase hk _ (by omega)]
   by_cases c:k+1=f.q.length
   ·rw [if_pos c,if_pos (by omega)];congr 1;omega
   ·rw [if_neg c,if_neg (by omega)];congr 1;omega
 have b1:qat f.q ((k:Int)-1)= -1↔k=0:=by
  constructor
  ·intro h
   refine Classical.byContradiction fun hne=> ?_
   have:=qat_in (q:=f.q) (k:=k-1) (by omega)
   rw [show((k-1:Nat):Int)=(k:Int)-1 by omega]at this
   omega
  ·rintro rfl;exact qat_out (.inl (by omega))
 have b2:qat f.q ((k:Int)+1)= -1↔k+1=f.q.length:=by
  constructor
  ·intro h
   refine Classical.byContradiction fun hne=> ?_
   have:=qat_in (q:=f.q) (k:=k+1) (by omega)
   rw [show((k+1:Nat):Int)=(k:Int)+1 by omega]at this
   omega
  ·intro h;exact qat_out (.inr (by omega))
 have q1:=qat_lt f ((k:Int)-1)
 have q2:=qat_ge f.q ((k:Int)-1)
 have q3:=qat_lt f ((k:Int)+1)
 have q4:=qat_ge f.q ((k:Int)+1)
 simp only [fifoC,ffCut,List.length_set,hle,a1,a2]at hh
 have d1:qat f.q ((k:Int)-1)= -1→(if k=0 then qat f.q 1 else qat f.q 0)=qat f.q ((k:Int)+1):=fun c=>by obtain rfl:=b1.1 c;rfl
 have d2:qat f.q ((k:Int)-1)≠-1→(if k=0 then qat f.q 1 else qat f.q 0)=qat f.q 0:=fun c=>if_neg fun h=>c (b1.2 h)
 simp only [Int.toNat_natCast]
 refine⟨⟨by omega,by omega⟩,by omega,⟨by omega,by omega⟩,by omega,fun c1=>⟨fun c2=> ?_,fun c2=> ?_⟩,fun c1=>⟨⟨by omega,by omega⟩,by omega,fun c2=> ?_,fun c2=> ?_⟩⟩
 ·rw [d1 c1,if_pos c1,if_pos c2,if_pos (b2.1 c2)]at hh
  exact⟨⟨by omega,by omega⟩,by omega,_,_,_,_,drp,hh⟩
 ·rw [d1 c1,if_pos c1,if_neg c2,if_neg (fun h=>c2 (b2.2 h))]at hh
  exact⟨⟨by omega,by omega⟩,by omega,⟨by omega,by omega⟩,by omega,_,_,_,_,drp,hh⟩
 ·rw [d2 c1,if_neg c1,if_pos c2,if_pos (b2.1 c2)]at hh
  exact⟨⟨by omega,by omega⟩,by omega,_,_,_,_,drp,hh⟩
 ·rw [d2 c1,if_neg c1,if_neg c2,if_neg (fun h=>c2 (b2.2 h))]at hh
  exact⟨⟨by omega,by omega⟩,by omega,⟨by omega,by omega⟩,by omega,_,_,_,_,drp,hh⟩⟩
instance c244 [o:Ob fifoC cs b f put]:Go1 (fn 244 [.pointer (some (ad b 0))] K cs)
  ((f.q=[]→K (.tuple ⟨[.int .i64 0,.bool false]⟩) cs)∧(∀i r,f.q=i::r→∀f':Ff,f'.q=r→f'.inn.length=f.inn.length→K (.tuple ⟨[.int .i64 i,.bool true]⟩) (put (fifoC b f')))):=⟨fun⟨h0,h1⟩=>f244 (by
 unfold s244
 refine go ?_
 simp only [beq_iff_eq,beq_eq_false_iff_ne]
 refine⟨fun c=>h0 (List.eq_nil_of_length_eq_zero (by omega)),fun c=> ?_⟩
 cases hq:f.q with
 | nil=>rw [hq]at c;exact absurd rfl c
 | cons i r=>
  have hk:0<f.q.length:=by rw [hq];simp
  have e:qat f.q 0=(i:Nat):=by have:=qat_in (k:=0) hk;rw [show((0:Nat):Int)=0 from rfl]at this;rw [this];simp [hq]
  rw [←hq,e]
  refine⟨0,hk,by simp [hq],fun f' hf hl=>h1 i r hq f' (by rw [hf,hq];rfl) hl⟩)⟩
instance c338 [o:Ob fifoC cs b f put] {x:Int}:Go1 (fn 338 [.pointer (some (ad b 0)),.int .i64 x] K cs)
  ((0≤x∧x<f.inn.length)∧(x.toNat∉f.q→K (.bool false) cs)∧(x.toNat∈f.q→∀f':Ff,f'.q=f.q.erase x.toNat→f'.inn.length=f.inn.length→K (.bool true) (put (fifoC b f')))):=⟨fun⟨⟨hx0,hx1⟩,h0,h1⟩=>f338 (by
 have r3:RdB cs f.bi 4 (List.map Value.bool f.inn):=⟨by obtain⟨i,h,_⟩:=o.h;exact Rd.in h (by simp [fifoC,bk])⟩
 unfold s338
 refine go ?_
 have hi:=f.hi x.toNat (by omega)
 simp only [ge_iff_le,decide_eq_true_eq,decide_eq_false_iff_not,Bool.not_eq_true',Bool.not_eq_false',hi]
 refine⟨fun _=>⟨fun c=>absurd hx1 c,fun _=>⟨⟨hx0,hx1⟩,by omega,h0,fun c=> ?_⟩⟩,fun c=>absurd hx0 c⟩
 have hk:=List.idxOf_lt_length_iff.2 c
 refine⟨f.q.idxOf x.toNat,hk,by rw [List.getElem_idxOf hk];omega,fun f' hf hl=>h1 c f' (by rw [hf,erase_idx]) hl⟩)⟩
end
@[reducible] def encS:Enc ByteArray 1:=⟨fun x=>[.string x],by omega,fun _=>rfl⟩
instance fdS0:FdS encS 0 id:=⟨fun _=>rfl⟩
def cat (l:List ByteArray):List UInt8:=l.flatMap bl
structure Wi where
 a:Option Addr
 n:Nat
 c:Nat
 ps:List ByteArray
 ch:Chunk
 row:Row 9 1 a n c encS ps ch
 at_:Nat
 sent:Int
 read:Int
 eof:Bool
 h0:∀s∈ps,0<s.size
 h1:ps=[]→at_=0
 h2:∀s,ps[0]? =some s→at_<s.size
 h3:∀s∈ps,s.size≤4096
def Wi.q (x:Wi):List UInt8:=(cat x.ps).drop x.at_
def wireC (b:Nat) (x:Wi):Chunk:=bk b 365 [.slice x.a x.n x.c,.int .i64 x.at_,.int .i64 x.q.length,.int .i64 x.sent,.int .i64 x.read,.bool x.eof]++x.ch
instance wireRow (x:Wi):Row 9 1 x.a x.n x.c encS x.ps x.ch:=x.row
theorem cat_cons (s:ByteArray) (l:List ByteArray):cat (s::l)=bl s++cat l:=rfl
theorem cat_app (l m:List ByteArray):cat (l++m)=cat l++cat m:=List.flatMap_append
theorem ps_le:∀(l:List ByteArray),(∀s∈l,0<s.size)→l.length≤(cat l).length
 | [],_=>Nat.le_refl _
 | s::l,h=>by
  have h1:=h s (by simp)
  have h2:=ps_le l fun x hx=>h x (by simp [hx])
  rw [cat_cons,List.length_append,List.length_cons,bl_length]
  omega
theorem wire_fin {b:Nat} {v:Value} {K:Value→SP} {put:Chunk→St} {F c:St} (x':Wi) {k m:Int} (h:K v (put (wireC b x'))) (e4:(x'.at_:Int)=k) (e5:(x'.q.length:Int)=m)
  [i:Drp c (bk b 365 [.slice x'.a x'.n x'.c,.int .i64 k,.int .i64 m,.int .i64 x'.sent,.int .i64 x'.read,.bool x'.eof]::x'.ch::F)]:
  ∃p1 p2,Imp c (p1::p2::F)∧K v (put (p1++p2)):=by
 subst e4;subst e5
 exact⟨_,_,drp,h⟩
section
variable {cs:St} {b:Nat} {x:Wi} {put:Chunk→St} {K:Value→SP}
instance wireRd [o:Ob wireC cs b x put]:RdB cs b 365 [.slice x.a x.n x.c,.int .i64 x.at_,.int .i64 x.q.length,.int .i64 x.sent,.int .i64 x.read,.bool x.eof]:=⟨by
 obtain⟨i,h,_⟩:=o.h;exact Rd.in h (by simp [wireC,bk])⟩
instance c150:Go1 (fn 150 [] K cs) (∀b x,Wi.q x=[]→x.eof=false→K (.pointer (some (ad b 0))) (wireC b x::cs)):=⟨fun h=>f150 (by
 unfold s150
 refine go fun b=> ?_
 have hh:=h b ⟨none,0,0,[],[],⟨Sl.nil⟩,0,0,0,false,by simp,by simp,by simp,by simp⟩ rfl rfl
 simpa [wireC,Wi.q,cat]using hh)⟩
instance c178 [o:Ob wireC cs b x put]:Go1 (fn 178 [.pointer (some (ad b 0))] K cs) (K (.int .i64 x.q.length) cs):=⟨fun h=>f178 (by unfold s178;exact go h)⟩
instance c179 [o:Ob wireC cs b x put]:Go1 (fn 179 [.pointer (some (ad b 0))] K cs) (K (.bool x.eof) cs):=⟨fun h=>f179 (by unfold s179;exact go h)⟩
instance c238 [o:Ob wireC cs b x put]:Go1 (fn 238 [.pointer (some (ad b 0))] K cs) (K (.bool (x.eof&&x.q.isEmpty)) cs):=⟨fun h=>f238 (by
 unfold s238
 refine go ⟨fun h1=> ?_,fun h1=> ?_⟩
 ·rw [h1]at h
  refine keq h ?_
  rw [Bool.true_and]
  congr 1
  cases x.q with
  | nil=>rfl
  | cons y l=>
   simp only [List.length_cons,List.isEmpty_cons,beq_eq_false_iff_ne]
   omega
 ·rw [h1]at h;exact h)⟩
instance c255 [o:Ob wireC cs b x put]:Go1 (fn 255 [.pointer (some (ad b 0))] K cs) (∀x',Wi.q x'=[]→x'.eof=true→K (.int .i64 x.q.length) (put (wireC b x'))):=⟨fun h=>o.fn2 (bk b 365 [.slice x.a x.n x.c,.int .i64 x.at_,.int .i64 x.q.length,.int .i64 x.sent,.int .i64 x.read,.bool x.eof]) x.ch rfl fun F=>f255 (by
 unfold s255
 refine go ?_
 have hh:=h ⟨none,0,0,[],[],⟨Sl.nil⟩,0,x.sent,x.read,true,by simp,by simp,by simp,by simp⟩ rfl rfl
 exact wire_fin (k:=0) (m:=0) _ hh rfl rfl)⟩
theorem Wi.at_le (x:Wi):x.at_≤(cat x.ps).length:=by
 cases hp:x.ps with
 | nil=>rw [x.h1 hp];omega
 | cons s l=>
  have:=x.h2 s (by rw [hp];rfl)
  rw [cat_cons,List.length_append,bl_length];omega
theorem Wi.q_len (x:Wi):x.q.length+x.at_=(cat x.ps).length:=by
 have:=x.at_le
 rw [Wi.q,List.length_drop];omega
theorem Wi.ps_le (x:Wi):x.ps.length≤x.q.length:=by
 cases hp:x.ps with
 | nil=>simp
 | cons s l=>
  have h1:=x.h2 s (by rw [hp];rfl)
  have h2:=x.q_len
  have h3:=Go.Proofs.YtbjlfobjngogkaaGreatDoor.ps_le l fun y hy=>x.h0 y (by rw [hp];simp [hy])
  rw [hp,cat_cons,List.length_append,bl_length]at h2
  rw [List.length_cons]
  omega
theorem empty_iff (s:ByteArray):(s.toList == (bs []).toList)=decide (s.size=0):=by
 rw [Lib.toList_data,Lib.toList_data]
 have:s.size=s.data.toList.length:=rfl
 rw [this]
 show(s.data.toList == [])=_
 cases s.data.toList <;>simp
instance c153 [o:Ob wireC cs b x put] {s:ByteArray} {e:Bool}:Go1 (fn 153 [.pointer (some (ad b 0)),.string s,.bool e] K cs)
  (((x.eof=true∨4096<s.size)→K (.bool false) cs)∧((x.eof=false∧s.size≤4096)→x.q.length≤1000000000000∧∀x',Wi.q x'=x.q++bl s→x'.eof=e→K (.bool true) (put (wireC b x')))):=⟨fun h=>o.fn2 (bk b 365 [.slice x.a x.n x.c,.int .i64 x.at_,.int .i64 x.q.length,.int .i64 x.sent,.int .i64 x.read,.bool x.eof]) x.ch rfl fun F=>f153 (by
 obtain⟨ha,hb⟩:=h
 unfold s153
 have hl:=x.ps_le
 have hr:=x.row.len
 refine goj ?_
 simp only [decide_eq_true_eq,decide_eq_false_iff_not,Bool.not_eq_true',Bool.not_eq_false',empty_iff]
 refine⟨fun h1=> ?_,fun h1=>⟨fun h2=> ?_,fun h2=> ?_⟩⟩
 ·have:=ha (.inl h1)
  rw [←o.same]at this
  exact wire_fin x this rfl rfl
 ·have:=ha (.inr (by omega))
  rw [←o.same]at this
  exact wire_fin x this rfl rfl
 ·obtain⟨hb,h⟩:=hb ⟨h1,by omega⟩
  have e1:w64 ((x.q.length:Int)+s.size)=((x.q.length+s.size:Nat):Int):=by rw [w64_id (by omega)];omega
  rw [e1]
  refine⟨fun h3=>⟨by omega,s,rfl,fun a' c' ch' r=> ?_⟩,fun h3=> ?_⟩
  ·have hq:(cat (x.ps++[s])).drop x.at_=x.q++bl s:=by
    rw [cat_app,List.drop_append_of_le_length x.at_le]
    show x.q++(bl s++[])=_
    rw [List.append_nil]
   have p0:∀y∈x.ps++[s],0<y.size:=by
    intro y hy
    rcases List.mem_append.1 hy with hy | hy
    ·exact x.h0 y hy
    ·simp at hy;subst hy;omega
   have p3:∀y∈x.ps++[s],y.size≤4096:=by
    intro y hy
    rcases List.mem_append.1 hy with hy | hy
    ·exact x.h3 y hy
    ·simp at hy;subst hy;omega
   have p2:∀y,(x.ps++[s])[0]? =some y→x.at_<y.size:=by
    intro y hy
    cases hp:x.ps with
    | nil=>rw [hp]at hy;simp at hy;subst hy;rw [x.h1 hp];omega
    | cons z l=>rw [hp]at hy;simp at hy;subst hy;exact x.h2 _ (by rw [hp];rfl)
   have hh:=h ⟨a',_,c',x.ps++[s],ch',r,x.at_,w64 (x.sent+s.size),x.read,e,p0,by simp,p2,p3⟩ hq rfl
   refine wire_fin (k:=x.at_) (m:=((x.q.length+s.size:Nat):Int)) _ hh rfl ?_
   show(((cat (x.ps++[s])).drop x.at_).length:Int)=_
   rw [hq,List.length_append,bl_length]
  ·have hs:bl s=[]:=List.length_eq_zero_iff.1 (by rw [bl_length];exact h3)
   have:=h ⟨x.a,x.n,x.c,x.ps,x.ch,x.row,x.at_,w64 (x.sent+s.size),x.read,e,x.h0,x.h1,x.h2,x.h3⟩ (by rw [hs,List.append_nil];rfl) rfl
   exact wire_fin (k:=x.at_) (m:=(x.q.length+s.size:Nat)) _ this rfl (by rw [h3];rfl))⟩
theorem q_cons {s:ByteArray} {l:List ByteArray} {k:Nat} (h:k≤s.size):(cat (s::l)).drop k=(bl s).drop k++cat l:=by
 rw [cat_cons,List.drop_append_of_le_length (by rw [bl_length];exact h)]
theorem st_imp {t:TypeId} {a:Addr} {v:Value} {K:SP} {cs cs':St} (hi:Imp cs cs') (h:st t a v K cs'):st t a v K cs:=by
 cases h with
 | mk h=>exact⟨fun E w hw=>h E w (hi E w hw)⟩
@[reducible] def Wi.next (x:Wi) {a':Option Addr} {n' c':Nat} {s:ByteArray} {l:List ByteArray} (hp:x.ps=s::l) (r:Row 9 1 a' n' c' encS l x.ch):Wi:=
 ⟨a',n',c',l,x.ch,r,0,x.sent,x.read,x.eof,fun y hy=>x.h0 y (by rw [hp];simp [hy]),fun _=>rfl,fun y hy=>x.h0 y (by rw [hp];exact List.mem_cons_of_mem _ (List.mem_of_getElem? hy)),fun y hy=>x.h3 y (by rw [hp];simp [hy])⟩
@[reducible] def Wi.adv (x:Wi) {s:ByteArray} {l:List ByteArray} (hp:x.ps=s::l) (k:Nat) (hk:x.at_+k<s.size):Wi:=
 ⟨x.a,x.n,x.c,x.ps,x.ch,x.row,x.at_+k,x.sent,x.read,x.eof,x.h0,fun h=>absurd (hp.symm.trans h) (by simp),fun y hy=>(by rw [hp]at hy;simp at hy;subst hy;exact hk),x.h3⟩
theorem Wi.q_at (x:Wi) {s:ByteArray} {l:List ByteArray} (hp:x.ps=s::l):x.q=(bl s).drop x.at_++cat l∧x.at_<s.size:=by
 have h:=x.h2 s (by rw [hp];rfl)
 exact⟨by rw [Wi.q,hp,q_cons (Nat.le_of_lt h)],h⟩
theorem Wi.next_q (x:Wi) {a':Option Addr} {n' c':Nat} {s:ByteArray} {l:List ByteArray} (hp:x.ps=s::l) (r:Row 9 1 a' n' c' encS l x.ch):(x.next hp r).q=x.q.drop (s.size-x.at_):=by
 rw [(x.q_at hp).1,Wi.q]
 show(cat l).drop 0=_
 have:s.size-x.at_=((bl s).drop x.at_).length:=by rw [List.length_drop,bl_length]
 rw [this,List.drop_left,List.drop_zero]
theorem Wi.adv_q (x:Wi) {s:ByteArray} {l:List ByteArray} (hp:x.ps=s::l) (k:Nat) (hk:x.at_+k<s.size):(x.adv hp k hk).q=x.q.drop k:=by
 show(cat x.ps).drop (x.at_+k)=((cat x.ps).drop x.at_).drop k
 rw [List.drop_drop]
instance c272 [o:Ob wireC cs b x put] {n:Int}:Go1 (fn 272 [.pointer (some (ad b 0)),.int .i64 n] K cs)
  ((0≤n∧n≤x.q.length∧x.q.length≤1000000000000)∧∀x',Wi.q x'=x.q.drop n.toNat→x'.eof=x.eof→K undef (put (wireC b x'))):=⟨fun h=>o.fn2 (bk b 365 [.slice x.a x.n x.c,.int .i64 x.at_,.int .i64 x.q.length,.int .i64 x.sent,.int .i64 x.read,.bool x.eof]) x.ch rfl fun F=>f272 (by
 obtain⟨⟨h1,h2,h3⟩,h⟩:=h
 unfold s272
 refine go ?_
 rw [w64_id (by omega)]
 refine lp (fun y:Wi×Nat=>[.int .i64 y.2]) (fun y=>bk b 365 [.slice y.1.a y.1.n y.1.c,.int .i64 y.1.at_,.int .i64 (x.q.length-n),.int .i64 y.1.sent,.int .i64 y.1.read,.bool y.1.eof]::y.1.ch::F)
  (fun y=>y.2≤y.1.q.length∧y.1.q.drop y.2=x.q.drop n.toNat∧y.1.eof=x.eof∧y.1.q.length≤x.q.length) (fun y=>y.2) (x,n.toNat) (by simp only [Int.toNat_of_nonneg h1]) drp ⟨by simp only;omega,rfl,rfl,Nat.le_refl _⟩ ?_
 rintro⟨y,k⟩ ⟨i1,i2,i3,i4⟩
 dsimp only at *
 have hr:=y.row.len
 refine goj ?_
 simp only [decide_eq_true_eq,decide_eq_false_iff_not,beq_iff_eq,beq_eq_false_iff_ne,ne_eq]
 refine⟨fun hk=> ?_,fun hk=> ?_⟩
 ·cases hp:y.ps with
  | nil=>
   have h4:=y.q_len
   rw [hp]at h4
   have:(cat []).length=0:=rfl
   omega
  | cons s l=>
  obtain⟨hq,hat⟩:=y.q_at hp
  have hql:y.q.length=(s.size-y.at_)+(cat l).length:=by rw [hq,List.length_append,List.length_drop,bl_length]
  rw [hp,List.length_cons]at hr
  have hs4:=y.h3 s (by rw [hp];simp)
  refine⟨by omega,fun s1 hs1=>⟨by omega,fun s2 hs2=> ?_⟩⟩
  simp at hs1 hs2
  subst hs1;subst hs2
  have e1:w64 ((s.size:Int)-y.at_)=s.size-y.at_:=w64_id (by omega)
  simp only [id,e1]
  by_cases hc:s.size-y.at_≤k
  ·have e2:(if(s.size:Int)-y.at_<k then(s.size:Int)-y.at_ else k)=s.size-y.at_:=by omega
   rw [e2]
   have e3:w64 ((y.at_:Int)+(s.size-y.at_))=s.size:=by rw [w64_id (by omega)];omega
   have e4:w64 ((k:Int)-(s.size-y.at_))=((k-(s.size-y.at_):Nat):Int):=by rw [w64_id (by omega)];omega
   rw [e3,e4]
   refine⟨fun _=>⟨by omega,fun a' r=> ?_⟩,fun h5=>by omega⟩
   have r':Row 9 1 a' (y.n-Int.toNat 1) (y.c-Int.toNat 1) encS l y.ch:=by simpa using r
   have hq':=y.next_q hp r'
   refine⟨(y.next hp r',k-(s.size-y.at_)),rfl,?_,⟨?_,?_,i3,?_⟩,?_⟩
   ·dsimp only;exact drp
   ·simp only [hq',List.length_drop];omega
   ·simp only [hq',List.drop_drop];rw [←i2];congr 1;omega
   ·simp only [hq',List.length_drop];omega
   ·simp only;omega
  ·have e2:(if(s.size:Int)-y.at_<k then(s.size:Int)-y.at_ else k)=k:=by omega
   rw [e2]
   have e3:w64 ((y.at_:Int)+k)=((y.at_+k:Nat):Int):=by rw [w64_id (by omega)];omega
   have e4:w64 ((k:Int)-k)=0:=by rw [Int.sub_self];rfl
   rw [e3,e4]
   refine⟨fun h5=>by omega,fun _=> ?_⟩
   have hq':=y.adv_q hp k (by omega)
   refine⟨(y.adv hp k (by omega),0),by simp,?_,⟨?_,?_,i3,?_⟩,?_⟩
   ·dsimp only;exact drp
   ·simp
   ·simp only [hq',List.drop_zero];exact i2
   ·simp only [hq',List.length_drop];omega
   ·simp only;omega
 ·have e:k=0:=by omega
  subst e
  have hh:=h y (by simpa using i2) i3
  refine wire_fin (m:=x.q.length-n) y hh rfl ?_
  have:=congrArg List.length i2
  simp only [List.length_drop]at this
  omega)⟩
def bu0:Bu:=⟨none,0,0,[],[],brNil,false⟩
theorem bu_new {b:Nat} {F:St}:Imp (bk b 112 [.pointer none,.slice none 0 0]::F) (buC b bu0::F):=Imp.of_sub (l:=[]) (by simp [buC,bu0])
theorem extract_mid (s:ByteArray) (i:Nat) (h:i≤s.size):bl (s.extract i s.size)=(bl s).drop i:=by
 rw [bl_extract,List.take_of_length_le (by rw [bl_length];omega)]
theorem size_bl (s:ByteArray):s.size=(bl s).length:=rfl
instance c271 [o:Ob wireC cs b x put] {n:Int}:Go1 (fn 271 [.pointer (some (ad b 0)),.int .i64 n] K cs)
  ((0≤n∧n≤x.q.length∧x.q.length≤1000000000000)∧K (.string (sb (x.q.take n.toNat))) cs):=⟨fun h=>o.fn2 (bk b 365 [.slice x.a x.n x.c,.int .i64 x.at_,.int .i64 x.q.length,.int .i64 x.sent,.int .i64 x.read,.bool x.eof]) x.ch rfl fun F=>f271 (by
 obtain⟨⟨h1,h2,h3⟩,h⟩:=h
 rw [←o.same]at h
 unfold s271
 refine go fun b'=> ?_
 refine lp (fun y:Nat×Nat×Nat×Bu=>[.int .i64 y.1,.int .i64 y.2.1,.int .i64 y.2.2.1]) (fun y=>buC b' y.2.2.2::bk b 365 [.slice x.a x.n x.c,.int .i64 x.at_,.int .i64 x.q.length,.int .i64 x.sent,.int .i64 x.read,.bool x.eof]::x.ch::F)
  (fun y=>y.2.2.1≤x.ps.length∧y.1≤((cat (x.ps.drop y.2.2.1)).drop y.2.1).length∧y.2.2.2.l++((cat (x.ps.drop y.2.2.1)).drop y.2.1).take y.1=x.q.take n.toNat∧∀s,x.ps[y.2.2.1]? =some s→y.2.1<s.size) (fun y=>y.1)
  (n.toNat,x.at_,0,bu0) (by simp only [Int.toNat_of_nonneg h1];rfl) bu_new ⟨by simp,?_,?_,x.h2⟩ ?_
 ·simp only [List.drop_zero];have:=x.q;show _≤x.q.length;omega
 ·simp only [List.drop_zero,List.nil_append];rfl
 rintro⟨k,at',i,u⟩ ⟨i0,i1,i2,i3⟩
 dsimp only at *
 have hr:=x.row.len
 have hul:u.l.length≤x.q.length:=by
  have:=congrArg List.length i2
  simp only [List.length_append,List.length_take]at this
  omega
 have hkl:k≤x.q.length:=by
  have:=congrArg List.length i2
  simp only [List.length_append,List.length_take]at this
  omega
 refine goj ?_
 simp only [decide_eq_true_eq,decide_eq_false_iff_not,Int.toNat_natCast,id]
 refine⟨fun hk=> ?_,fun hk=> ?_⟩
 ·have hlt:i<x.ps.length:=by
   rcases Nat.lt_or_ge i x.ps.length with h4 | h4
   ·exact h4
   ·rw [List.drop_eq_nil_of_le h4]at i1;simp [cat]at i1;omega
  refine⟨by omega,fun s hs=> ?_⟩
  have hat:=i3 s hs
  have hd:x.ps.drop i=s::x.ps.drop (i+1):=by
   rw [List.drop_eq_getElem_cons hlt];congr 1
   rw [List.getElem?_eq_getElem hlt]at hs;exact Option.some.inj hs
  have hsz:(s.extract at' s.size).size=s.size-at':=by rw [size_bl,extract_mid s at' (by omega),List.length_drop,bl_length]
  rw [hd,q_cons (by omega)]at i1 i2
  rw [hsz]
  have hs4:=x.h3 s (List.mem_of_getElem? hs)
  have e2:(if((s.size-at':Nat):Int)<k then((s.size-at':Nat):Int)else k)=(min (s.size-at') k:Nat):=by omega
  rw [e2,Int.toNat_natCast]
  have e3:bl ((s.extract at' s.size).extract 0 (min (s.size-at') k))=((bl s).drop at').take (min (s.size-at') k):=by rw [bl_extract,extract_mid s at' (by omega),List.drop_zero]
  have e4:((s.extract at' s.size).extract 0 (min (s.size-at') k)).size=min (s.size-at') k:=by rw [size_bl,e3,List.length_take,List.length_drop,bl_length];omega
  rw [e4]
  have e5:w64 ((k:Int)-(min (s.size-at') k:Nat))=((k-min (s.size-at') k:Nat):Int):=by rw [w64_id (by omega)];omega
  have e6:w64 ((i:Int)+1)=((i+1:Nat):Int):=by rw [w64_id (by have:=x.ps_le;omega)];rfl
  rw [e5,e6]
  rw [List.length_append,List.length_drop,bl_length]at i1
  refine⟨⟨by omega,by omega⟩,⟨by omega,by omega⟩,⟨by omega,by omega⟩,fun u' hu'=>⟨(k-min (s.size-at') k,0,i+1,u'),rfl,drp,⟨by simp only;omega,?_,?_,fun y hy=>x.h0 y (List.mem_of_getElem? hy)⟩,by simp only;omega⟩⟩
  ·simp only [List.drop_zero];omega
  ·simp only [List.drop_zero]
   rw [hu',e3,←i2,List.append_assoc]
   congr 1
   by_cases hc:s.size-at'≤k
   ·have e7:min (s.size-at') k=((bl s).drop at').length:=by rw [List.length_drop,bl_length];omega
    rw [e7,List.take_length,List.take_append]
    congr 1
    rw [List.take_of_length_le (by rw [List.length_drop,bl_length];omega)]
   ·have e7:min (s.size-at') k=k:=by omega
    rw [e7,Nat.sub_self,List.take_zero,List.append_nil,List.take_append_of_le_length (by rw [List.length_drop,bl_length];omega)]
 ·have e:k=0:=by omega
  subst e
  simp only [List.take_zero,List.append_nil]at i2
  rw [i2]
  exact wire_fin x h rfl rfl)⟩
instance c181 [o:Ob wireC cs b x put] {n:Int}:Go1 (fn 181 [.pointer (some (ad b 0)),.int .i64 n] K cs)
  (x.q.length≤1000000000000∧∀x',Wi.q x'=x.q.drop (min n.toNat x.q.length)→x'.eof=x.eof→K (.string (sb (x.q.take (min n.toNat x.q.length)))) (put (wireC b x'))):=⟨fun h=>o.fn1 (wireC b x) rfl fun F=>f181 (by
 obtain⟨h3,h⟩:=h
 unfold s181
 have e:(if(x.q.length:Int)<if 0>n then 0 else n then(x.q.length:Int)else if 0>n then 0 else n)=(min n.toNat x.q.length:Nat):=by omega
 refine go ?_
 rw [e]
 refine⟨⟨by omega,by omega,h3⟩,⟨by omega,by omega,h3⟩,fun x' hq he=> ?_⟩
 rw [Int.toNat_natCast]at hq ⊢
 refine st_imp (cs':=bk b 365 [.slice x'.a x'.n x'.c,.int .i64 x'.at_,.int .i64 x'.q.length,.int .i64 x'.sent,.int .i64 x'.read,.bool x'.eof]::x'.ch::F) ?_ (go ?_)
 ·exact Imp.of_sub (l:=[]) (by simp [wireC])
 ·have hh:=h ⟨x'.a,x'.n,x'.c,x'.ps,x'.ch,x'.row,x'.at_,x'.sent,w64 (x'.read+(min n.toNat x.q.length:Nat)),x'.eof,x'.h0,x'.h1,x'.h2,x'.h3⟩ hq he
  refine⟨_,?_,hh⟩
  exact Imp.of_sub (l:=[]) (by simp [wireC];rfl))⟩
end
@[reducible] def encI:Enc Item 5:=⟨fun x=> .bool x.1::List.map (Value.int .u64) (wI x.2),by omega,fun _=>rfl⟩
instance bd416:BdT 416 [(0,1),(1,4)] [.bool false,.int .u64 0,.int .u64 0,.int .u64 0,.int .u64 0]:=⟨by kernel_rfl⟩
def itemV (s:List UInt8):Value:=match gItem s with
 | .error (p,e)=> .tuple ⟨[.agg ⟨encI.f (false,0)⟩,.int .i64 (p:Nat),.int .i64 e]⟩
 | .ok (x,n)=> .tuple ⟨[.agg ⟨encI.f x⟩,.int .i64 (n:Nat),.int .i64 0]⟩
theorem sat_at0 (s:ByteArray):sat s 0=(cAt (bl s) 0:Nat):=sat_cAt s 0
theorem sat_at1 (s:ByteArray):sat s 1=(cAt (bl s) 1:Nat):=sat_cAt s 1
theorem gItem_in {s:List UInt8} (h0:0<s.length) {r:Res Item} (h:gItem s=r):match r with
  | .error (p,e)=>p≤s.length∧e≠0
  | .ok (x,n)=>0<n∧n≤s.length∧x.2<2 ^ 256∧(x.1=true→x.2=0):=by
 unfold gItem at h
 split at h
 ·subst h;exact⟨by omega,by omega,by decide,fun _=>rfl⟩
 ·split at h
  ·subst h;exact⟨by omega,by omega,sSpan_lt (by decide),fun h=>by cases h⟩
  ·split at h
   ·split at h
    ·rename_i e he
     subst h
     exact rWhole_in he
    ·rename_i x j hx
     subst h
     have:=rWhole_in hx
     exact⟨this.1,this.2.1,this.2.2,fun h=>by cases h⟩
   ·split at h
    ·subst h;exact⟨by omega,by decide⟩
    ·split at h
     ·split at h
      ·subst h;exact⟨by omega,by decide⟩
      ·subst h;exact⟨by omega,by omega,sSpan_lt (cAt_lt _ _),fun h=>by cases h⟩
     ·subst h;exact⟨by omega,by omega,sSpan_lt (cAt_lt _ _),fun h=>by cases h⟩
section
variable {cs:St} {K:Value→SP}
instance c457 {a:Nat}:Go1 (fn 457 [.int .u8 (a:Int)] K cs) (a<256∧K (.agg ⟨wv (sSpan a a)⟩) cs):=⟨fun h=>up0 (f457 (by
 unfold s457
 exact go fun b1=>⟨⟨h.1,h.1⟩,fin h.2⟩))⟩
instance c455L:Go1 (fn 455 [.int .u8 0,.int .u8 255] K cs) (K (.agg ⟨wv (sSpan 0 255)⟩) cs):=⟨fun h=>(c455 (a:=0) (b:=255)).h ⟨⟨by decide,by decide⟩,h⟩⟩
instance c441 {s:ByteArray}:Go1 (fn 441 [.string s] K cs) ((0<s.size∧s.size≤1000000000000)∧K (itemV (bl s)) cs):=⟨fun h=>up0 (f441 (by
 obtain⟨⟨h1,h2⟩,h⟩:=h
 unfold s441
 refine go fun b1=> ?_
 rw [sat_at0,sat_at1]
 refine go ?_
 have q:∀n:Nat,n≠cAt (bl s) 0→¬(cAt (bl s) 0=n):=fun n h e=>h e.symm
 simp only [beq_iff_eq,beq_eq_false_iff_ne,ne_eq]
 refine⟨by omega,fun g1=> ?_,fun g1=>⟨fun g2=> ?_,fun g2=>⟨fun g3=>⟨h2,?_⟩,fun g3=>⟨fun g4=> ?_,fun g4=>⟨fun g5=>⟨fun g6=> ?_,fun g6=>⟨by omega,cAt_lt _ _,?_⟩⟩,fun g5=>⟨by omega,cAt_lt _ _,?_⟩⟩⟩⟩⟩⟩
 ·have g:cAt (bl s) 0=42:=by omega
  have e:itemV (bl s)= .tuple ⟨[.agg ⟨encI.f (true,0)⟩,.int .i64 (1:Nat),.int .i64 0]⟩:=by simp only [itemV,gItem,g,if_true]
  rw [e]at h
  refine fin (c':=cs) (keq h ?_)
  simp only [wv0];rfl
 ·have g:cAt (bl s) 0=63:=by omega
  have e:itemV (bl s)= .tuple ⟨[.agg ⟨encI.f (false,sSpan 0 255)⟩,.int .i64 (1:Nat),.int .i64 0]⟩:=by
   simp only [itemV,gItem,g,if_true]
   rfl
  rw [e]at h
  refine go ?_
  exact fin h
 ·have g:cAt (bl s) 0=91:=by omega
  cases hr:rWhole (bl s)with
  | error pe=>
   obtain⟨p,e⟩:=pe
   have e1:readV (bl s)= .tuple ⟨[.agg ⟨wv 0⟩,.int .i64 (p:Nat),.int .i64 e]⟩:=by simp only [readV,hr]
   have e2:itemV (bl s)= .tuple ⟨[.agg ⟨encI.f (false,0)⟩,.int .i64 (p:Nat),.int .i64 e]⟩:=by
    simp only [itemV,gItem,g,if_true,hr]
    rfl
   rw [e2]at h
   rw [e1]
   refine go fun b2=> ?_
   exact fin h
  | ok xj=>
   obtain⟨x,j⟩:=xj
   have e1:readV (bl s)= .tuple ⟨[.agg ⟨wv x⟩,.int .i64 (j:Nat),.int .i64 0]⟩:=by simp only [readV,hr]
   have e2:itemV (bl s)= .tuple ⟨[.agg ⟨encI.f (false,x)⟩,.int .i64 (j:Nat),.int .i64 0]⟩:=by
    simp only [itemV,gItem,g,if_true,hr]
    rfl
   rw [e2]at h
   rw [e1]
   refine go fun b2=> ?_
   exact fin h
 ·have g:cAt (bl s) 0=93:=by omega
  have e:itemV (bl s)= .tuple ⟨[.agg ⟨encI.f (false,0)⟩,.int .i64 (0:Nat),.int .i64 2]⟩:=by
   simp only [itemV,gItem,g,if_true]
   rfl
  rw [e]at h
  refine fin (c':=cs) (keq h ?_)
  simp only [wv0];rfl
 ·have g:cAt (bl s) 0=37:=by omega
  have g7:s.size=1:=by omega
  have e:itemV (bl s)= .tuple ⟨[.agg ⟨encI.f (false,0)⟩,.int .i64 (1:Nat),.int .i64 3]⟩:=by
   simp only [itemV,gItem,g,bl_length,g7,if_true]
   rfl
  rw [e]at h
  refine fin (c':=cs) (keq h ?_)
  simp only [wv0];rfl
 ·have g:cAt (bl s) 0=37:=by omega
  have g7:¬s.size=1:=by omega
  have e:itemV (bl s)= .tuple ⟨[.agg ⟨encI.f (false,sSpan (cAt (bl s) 1) (cAt (bl s) 1))⟩,.int .i64 (2:Nat),.int .i64 0]⟩:=by
   simp only [itemV,gItem,g,bl_length,g7,if_true,if_false]
   rfl
  rw [e]at h
  refine go ?_
  exact fin h
 ·have q1:¬cAt (bl s) 0=42:=by omega
  have q2:¬cAt (bl s) 0=63:=by omega
  have q3:¬cAt (bl s) 0=91:=by omega
  have q4:¬cAt (bl s) 0=93:=by omega
  have q5:¬cAt (bl s) 0=37:=by omega
  have e:itemV (bl s)= .tuple ⟨[.agg ⟨encI.f (false,sSpan (cAt (bl s) 0) (cAt (bl s) 0))⟩,.int .i64 (1:Nat),.int .i64 0]⟩:=by
   simp only [itemV,gItem,q1,q2,q3,q4,q5,if_false]
  rw [e]at h
  refine go ?_
  exact fin h))⟩
instance c428 {s:ByteArray}:Go1 (fn 428 [.string s] K cs) (s.size≤1000000000000∧(∀p e,gParse (bl s)= .error (p,e)→K (.tuple ⟨[.slice none 0 0,.int .i64 (p:Nat),.int .i64 e]⟩) cs)∧
  ∀l,gParse (bl s)= .ok l→∀a c ch,Row 416 5 a l.length c encI l ch→K (.tuple ⟨[.slice a l.length c,.int .i64 0,.int .i64 0]⟩) (ch::cs)):=⟨fun h=>up0 (f428 (by
 obtain⟨h2,he,hk⟩:=h
 unfold s428
 refine lp (fun y:Option Addr×Nat×Chunk×List Item×Nat×Nat=>[.slice y.1 y.2.2.2.1.length y.2.1,.int .i64 y.2.2.2.2.1]) (fun y=>y.2.2.1::cs)
  (fun y=>Row 416 5 y.1 y.2.2.2.1.length y.2.1 encI y.2.2.2.1 y.2.2.1∧y.2.2.2.2.1≤s.size∧y.2.2.2.1.length≤60∧s.size+1≤y.2.2.2.2.2+y.2.2.2.2.1∧gGo (bl s) y.2.2.2.2.2 y.2.2.2.1 y.2.2.2.2.1=gParse (bl s)) (fun y=>s.size-y.2.2.2.2.1)
  (none,0,[],[],0,s.size+1) rfl drp ⟨⟨Sl.nil⟩,Nat.zero_le _,Nat.zero_le _,by simp only;omega,rfl⟩ ?_
 rintro⟨a,c,ch,l,k,f⟩ ⟨r,h3,h4,h5,h6⟩
 dsimp only at *
 refine go ?_
 simp only [decide_eq_true_eq,decide_eq_false_iff_not,beq_iff_eq,beq_eq_false_iff_ne,ne_eq,Int.toNat_natCast]
 obtain⟨f',rfl⟩:∃f',f=f'+1:=⟨f-1,by omega⟩
 unfold gGo at h6
 have hx:bl (s.extract k s.size)=(bl s).drop k:=extract_mid s k h3
 have hs:(s.extract k s.size).size=s.size-k:=by rw [size_bl,hx,List.length_drop,bl_length]
 rw [hx,hs]
 refine⟨fun c0=>⟨fun c1=> ?_,fun c1=>⟨by omega,by omega,?_⟩⟩,fun c0=> ?_⟩
 ·have g1:k<(bl s).length:=by rw [bl_length];omega
  have g2:l.length=60:=by omega
  simp only [g1,g2,if_true]at h6
  exact fin (he k 4 h6.symm)
 ·have g1:k<(bl s).length:=by rw [bl_length];omega
  have g2:¬l.length=60:=by omega
  simp only [g1,g2,if_true,if_false]at h6
  have hpos:0<((bl s).drop k).length:=by rw [List.length_drop];omega
  cases hi:gItem ((bl s).drop k)with
  | error pe=>
   obtain⟨p,e⟩:=pe
   obtain⟨b1,b2⟩:=gItem_in hpos hi
   rw [List.length_drop,bl_length]at b1
   simp only [hi]at h6
   have e1:itemV ((bl s).drop k)= .tuple ⟨[.agg ⟨encI.f (false,0)⟩,.int .i64 (p:Nat),.int .i64 e]⟩:=by simp only [itemV,hi]
   rw [e1]
   refine go fun b3=>⟨fun _=> ?_,fun c2=> ?_⟩
   ·have w1:w64 ((k:Int)+p)=((k+p:Nat):Int):=by rw [w64_id (by omega)];rfl
    rw [w1]
    exact fin (he _ _ h6.symm)
   ·exact absurd (by simpa using c2) b2
  | ok xn=>
   obtain⟨x,n⟩:=xn
   obtain⟨b1,b2,b3,b4⟩:=gItem_in hpos hi
   rw [List.length_drop,bl_length]at b2
   simp only [hi]at h6
   have e1:itemV ((bl s).drop k)= .tuple ⟨[.agg ⟨encI.f x⟩,.int .i64 (n:Nat),.int .i64 0]⟩:=by simp only [itemV,hi]
   rw [e1]
   have w1:w64 ((k:Int)+n)=((k+n:Nat):Int):=by rw [w64_id (by omega)];rfl
   refine go fun b5=>⟨fun c2=>(by simp at c2),fun _=> ?_⟩
   rw [w1]
   refine⟨⟨by decide,by omega,by omega⟩,x,rfl,fun a' c' ch' r'=>⟨(a',c',ch',l++[x],k+n,f'),?_,drp,⟨?_,by simp only;omega,by simp;omega,by simp only;omega,h6⟩,by simp only;omega⟩⟩
   ·simp
   ·simpa using r'
 ·have g1:¬k<(bl s).length:=by rw [bl_length];omega
  simp only [g1,if_false]at h6
  exact fin (hk l h6.symm a c ch r)))⟩
end
end Go.Proofs.YtbjlfobjngogkaaGreatDoor
