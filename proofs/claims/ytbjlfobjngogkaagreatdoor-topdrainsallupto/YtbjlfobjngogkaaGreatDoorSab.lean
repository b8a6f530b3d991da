/- Part of a proof over this seat: contracts of functions and plain laws, joined by program out of smaller texts. Conditions: those that each theorem states. -/
import Derived.Test.YtbjlfobjngogkaaGreatDoorSaa
import Derived.Laws.Tables
import Derived.Shelf.Strings.Builder1
import Derived.Lib.AppendStr
import Derived.ChangeKeysEq
namespace Go.Proofs.YtbjlfobjngogkaaGreatDoor
open Go
set_option synthInstance.maxSize 100000
set_option maxRecDepth 100000
theorem zl3 (n:Int):IntKind.wrap .u64 n=n % 18446744073709551616:=by
 simp [IntKind.wrap,IntKind.bits,IntKind.signed]
theorem zpm (n:Int):IntKind.wrap .u8 n=n % 256:=by
 simp [IntKind.wrap,IntKind.bits,IntKind.signed]
theorem zkm (x:Nat):BitVec.ofInt 64 (x:Int)=BitVec.ofNat 64 x:=BitVec.ofInt_natCast 64 x
theorem za2 {x:Nat} (h:x<18446744073709551616):IntKind.wrap .u64 (x:Int)=x:=by rw [zl3];omega
theorem uor {x y:Nat} (hx:x<18446744073709551616) (hy:y<18446744073709551616):IntKind.wrap .u64 ((BitVec.ofInt 64 (x:Int)|||BitVec.ofInt 64 (y:Int)).toNat:Int)=((x|||y:Nat):Int):=by
 rw [zkm,zkm,BitVec.toNat_or,BitVec.toNat_ofNat,BitVec.toNat_ofNat,Nat.mod_eq_of_lt hx,Nat.mod_eq_of_lt hy];exact za2 (Nat.or_lt_two_pow (n:=64) hx hy)
theorem uand {x y:Nat} (hx:x<18446744073709551616) (hy:y<18446744073709551616):IntKind.wrap .u64 ((BitVec.ofInt 64 (x:Int)&&&BitVec.ofInt 64 (y:Int)).toNat:Int)=((x&&&y:Nat):Int):=by
 rw [zkm,zkm,BitVec.toNat_and,BitVec.toNat_ofNat,BitVec.toNat_ofNat,Nat.mod_eq_of_lt hx,Nat.mod_eq_of_lt hy];exact za2 (QZ Nat.and_le_left hx)
theorem uxor {x y:Nat} (hx:x<18446744073709551616) (hy:y<18446744073709551616):IntKind.wrap .u64 ((BitVec.ofInt 64 (x:Int) ^^^ BitVec.ofInt 64 (y:Int)).toNat:Int)=((x ^^^ y:Nat):Int):=by
 rw [zkm,zkm,BitVec.toNat_xor,BitVec.toNat_ofNat,BitVec.toNat_ofNat,Nat.mod_eq_of_lt hx,Nat.mod_eq_of_lt hy];exact za2 (Nat.xor_lt_two_pow (n:=64) hx hy)
section
variable {cs:St} {t:Nat} {x y:Operand} {K:Value→SP}
instance ushl {a i:Int} {k:IntKind}:Go1 (qy (bsem .shl t x y (.int .u64 a) (.int k i)) K cs) (0≤i∧K (.int .u64 (IntKind.wrap .u64 (a*2 ^ (min i.toNat 64)))) cs):=⟨λh=>by
 obtain⟨h1,h⟩:=h;refine⟨_,λE w _=> ?_,h⟩
 have:¬i<0:=by omega
 simp [bsem,eqGuard,binOp,Op.shift,this,IntKind.bits]⟩
instance ushr {a i:Int} {k:IntKind}:Go1 (qy (bsem .shr t x y (.int .u64 a) (.int k i)) K cs) (0≤i∧K (.int .u64 (a.fdiv (2 ^ (min i.toNat 64)))) cs):=⟨λh=>by
 obtain⟨h1,h⟩:=h;refine⟨_,λE w _=> ?_,h⟩
 have:¬i<0:=by omega
 simp [bsem,eqGuard,binOp,Op.shift,this,IntKind.bits]⟩
end
noncomputable def arT (t n:Nat):Bool:=match Tryz.prog.underlying t with
 | some (.array m e)=>Nat.beq m n&&sizeT e 1
 | _=>false
class ArT (t:Nat) (n:outParam Nat):Prop where
 h:arT t n=true
instance ar412:ArT 412 4:=⟨by kernel_rfl⟩
instance ar532:ArT 532 256:=⟨by kernel_rfl⟩
theorem zze {t n:Nat} (p:ArT t n):∃e,Tryz.prog.underlying t=some (.array n e)∧sizeT e 1=true:=by
 have h:=p.h;unfold arT at h;cases hu:Tryz.prog.underlying t with
 | none=>rw [hu]at h;cases h
 | some d=>
  rw [hu]at h;cases d with
  | array m e=>simp only [JT]at h;exact⟨e,by rw [Nat.eq_of_beq_eq_true h.1],h.2⟩
  | _=>cases h
section
variable {cs:St} {t n b o:Nat} {a:Addr}
theorem arIx [p:ArT t n] {k:IntKind} {i:Int} (h0:0≤i) (h1:i<n) (E w:World):(Instr.indexAt t (.pointer (some (ad b o))) (.int k i)).run Tryz.prog w= .ok (.pointer (some (ad b (o+i.toNat)))) w:=by
 obtain⟨e,hu,hs⟩:=zze p;simp [Instr.indexAt,Instr.sureAddr,asIntOf,zaf hu,h0,h1,zby hs,zbd]
instance arIxq [p:ArT t n] [m:Na a b o] {k:IntKind} {i:Int} {K:Value→SP}:Go1 (qy (Instr.indexAt t (.pointer (some a)) (.int k i)) K cs) ((0≤i∧i<n)∧K (.pointer (some (ad b (o+i.toNat)))) cs):=
 ⟨λh=>⟨_,λE w _=>by rw [m.h];exact arIx h.1.1 h.1.2 E w,h.2⟩⟩
instance arIxi [p:ArT t n] [m:Na a b o] {i:Int} {K:Addr→SP}:Go1 (ix t (.pointer (some a)) i K cs) ((0≤i∧i<n)∧K (ad b (o+i.toNat)) cs):=
 ⟨λh=>⟨.pointer (some (ad b (o+i.toNat))),λE w _=>by rw [m.h];exact arIx h.1.1 h.1.2 E w,⟨_,rfl,h.2⟩⟩⟩
end
instance (priority:=10) appNil {l:List Value}:App l [] l:=⟨by simp⟩
class BdZ (t:Nat) (z:outParam (List Value)):Prop where
 h:Tryz.prog.built t []=some ⟨z⟩
instance bdZ {cs:St} {t:Nat} {z:List Value} {K:Value→SP} [p:BdZ t z]:Go1 (qy (Instr.build t ⟨[]⟩) K cs) (K (.agg ⟨z⟩) cs):=⟨λh=>⟨_,λE w _=>run_build w t ⟨[]⟩ _ p.h,h⟩⟩
noncomputable def bdT (t:Nat):Option (List (Nat×Nat)×List Value):=match Tryz.prog.info? t,Tryz.prog.underlying t with
 | some it,some (.struct fields)=>match it.zero,fields.toList.mapM (λf=>(Tryz.prog.info? f.type).map λi=>(f.offset,i.size))with
  | some z,some places=>some (places,z.cells.toList)
  | _,_=>none
 | _,_=>none
class BdT (t:Nat) (pl:outParam (List (Nat×Nat))) (z:outParam (List Value)):Prop where
 h:bdT t=some (pl,z)
theorem zwy {t:Nat} {pl:List (Nat×Nat)} {z:List Value} (p:BdT t pl z) (parts:List (Nat×Value)):Tryz.prog.built t parts=Instr.fill (pl.toArray[·]?) ⟨z⟩ parts:=by
 have h:=p.h;unfold bdT at h;unfold Program.built;cases hi:Tryz.prog.info? t with
 | none=>rw [hi]at h;cases h
 | some it=>
  cases hu:Tryz.prog.underlying t with
  | none=>rw [hi,hu]at h;cases h
  | some d=>
   rw [hi,hu]at h;cases d with
   | struct fields=>
    simp only at h ⊢;cases hz:it.zero with
    | none=>rw [hz]at h;cases h
    | some zv=>
     rw [hz]at h;cases hm:fields.toList.mapM (λf=>(Tryz.prog.info? f.type).map λi=>(f.offset,i.size))with
     | none=>rw [hm]at h;cases h
     | some places=>
      rw [hm]at h;cases h;rfl
   | _=>cases h
class Nth {α:Type} (l:List α) (i:Nat) (x:outParam α):Prop where
 h:l[i]? =some x
instance {α:Type} {x:α} {l:List α}:Nth (x::l) 0 x:=⟨rfl⟩
instance {α:Type} {x y:α} {l:List α} {n:Nat} [i:Nth l n x]:Nth (y::l) (n+1) x:=⟨i.h⟩
class Fil (pl:List (Nat×Nat)) (c:List Value) (ps:List (Nat×Value)) (out:outParam (List Value)):Prop where
 h:Instr.fill (pl.toArray[·]?) ⟨c⟩ ps=some ⟨out⟩
instance {pl:List (Nat×Nat)} {c:List Value}:Fil pl c [] c:=⟨rfl⟩
instance {pl:List (Nat×Nat)} {c l c' out:List Value} {i o n:Nat} {v:Value} {ps:List (Nat×Value)} [g:Nth pl i (o,n)] [e:Cel v l] [f:Len l n] [j:Lay c o l c'] [k:Fil pl c' ps out]:Fil pl c ((i,v)::ps) out:=⟨by
 have h1:v.cells.size=n:=by rw [←Array.length_toList,e.h,f.h]
 have h2:=j.h.2;rw [f.h]at h2;have h3:(pl.toArray)[i]? =some (o,n):=by rw [List.getElem?_toArray];exact g.h
 have h4:v.cells.zipIdx.foldl (λcs (c,j)=>cs.setIfInBounds (o+j) c) (⟨c⟩:Array Value)=⟨c'⟩:=by
  have h5:=zm4 l o 0 ⟨c⟩;rw [Nat.add_zero,j.h.1]at h5;rw [←h5,←Array.foldl_toList,Array.toList_zipIdx,e.h]
 have h6:¬(o+n>c.length):=by omega
 simp only [Instr.fill,h3,h1,ne_eq,not_true,false_or,List.size_toArray,h6,if_false];rw [h4];exact k.h⟩
instance bdS {cs:St} {t:Nat} {pl:List (Nat×Nat)} {z out:List Value} {ps:List (Nat×Value)} {K:Value→SP} [p:BdT t pl z] [f:Fil pl z ps out]:Go1 (qy (Instr.build t ⟨ps⟩) K cs) (K (.agg ⟨out⟩) cs):=
 ⟨λh=>⟨_,λE w _=>run_build w t ⟨ps⟩ _ (by rw [zwy p];exact f.h),h⟩⟩
end Go.Proofs.YtbjlfobjngogkaaGreatDoor
namespace Go.Proofs.YtbjlfobjngogkaaGreatDoor
abbrev never:Int:=9223372036854775807
def own (t:Int):Int:=max t 0
def tadd (t d:Int):Int:=if own t≥never-own d then never else own t+own d
def zk3 (t n:Int):Int:=if n<1 then 0 else if t<1 then 0 else if t*n≥never then never else t*n
def tdue (a n:Int):Bool:=a != never&&decide (own a≤own n)
structure Setup where
 live:Int
 ring:Int
 win:Int
 out:Int
 quantum:Int
 visits:Int
 deriving DecidableEq
def inn (n most:Int):Bool:=decide (1≤n)&&decide (n≤most)
def good (s:Setup):Bool:=inn s.ring 4096&&inn s.win 4096&&inn s.out 4096&&inn s.live 1024&&inn s.quantum 1000000&&inn s.visits 64
def some' (n most:Int):Int:=min (max n 0) most
def price (s:Setup) (kind fresh waits:Int):Int:=
 if good s=false then 0 else if kind=2 then 1+min (some' fresh s.win+some' waits s.win) s.win else if kind=1 then 1+some' waits s.out else 1
def most (s:Setup):Int:=1+max s.win s.out
def zcn (s:Setup):Int:=if good s=false then 0 else(most s+s.quantum-1) / s.quantum
def za8 (s:Setup):Int:=if good s=false then 0 else s.live*zcn s
def zbe (s:Setup) (at_ each:Int):Int:=if good s=false then 0 else tadd (tadd at_ (zk3 each (za8 s))) each
structure Due where
 til:Int
 lim:Int
 cut:Int
 deriving DecidableEq
def behind (now n:Int):Int:=if n=never then never else tadd now n
def Due.begin (now last:Int):Due:=⟨never,behind now last,never⟩
def Due.wait (d:Due) (now n:Int):Due:={d with til:=behind now n}
def Due.rest (d:Due):Due:={d with til:=never}
def zjc (l:List Int):Int:=l.foldl (λm t=>min m (own t)) never
def Due.cuts (d:Due) (at_:Int):Due:={d with cut:=zjc [d.cut,at_]}
def Due.first (d:Due):Int:=zjc [d.til,d.lim,d.cut]
def Due.over (d:Due) (now:Int):Int×Bool:=
 if own d.lim≤own d.cut∧tdue (own d.lim) now=true then(3,true)else if own d.cut<own d.lim∧tdue (own d.cut) now=true then(5,true)else(0,false)
def Due.woken (d:Due) (now:Int):Bool:=tdue d.til now
structure Wtr where
 out:Int
 text:ByteArray
 sent:Int
 laid:Int
structure Wtr.Ok (p:Wtr):Prop where
 h0:0≤p.sent
 h1:p.sent≤p.laid
 h2:p.laid≤p.text.size
 h3:p.text.size≤1000000000000
 h4:1≤p.out
 h5:p.out≤4096
def Wtr.new (out:Int):Wtr:=⟨min (max out 1) 4096,.empty,0,0⟩
def Wtr.begin (p:Wtr) (t:ByteArray):Wtr:=⟨p.out,t,0,0⟩
def Wtr.left (p:Wtr):Int:=p.laid-p.sent
def Wtr.rest (p:Wtr):Int:=p.text.size-p.laid
def Wtr.loads (p:Wtr):Int:=if p.laid>p.sent then 0 else min (p.text.size-p.laid) p.out
def Wtr.load (p:Wtr):Wtr:={p with laid:=p.laid+p.loads}
def Wtr.upto (p:Wtr) (n:Int):Int:=p.sent+min (max n 0) (p.laid-p.sent)
def Wtr.take (p:Wtr) (n:Int):Wtr:={p with sent:=p.upto n}
def Wtr.taken (p:Wtr) (n:Int):ByteArray:=if p.laid=p.sent then .empty else p.text.extract p.sent.toNat (p.upto n).toNat
def Wtr.peek (p:Wtr):ByteArray:=p.text.extract p.sent.toNat p.laid.toNat
structure Turns where
 most:Nat
 q:List Nat
 has:List Int
 quantum:Int
 who:Int
def Turns.new (most quantum:Int):Turns:=⟨(min (max most 1) 1024).toNat,[],List.replicate (min (max most 1) 1024).toNat 0,min (max quantum 1) 1000000,-1⟩
def qpush (q:List Nat) (i:Nat):List Nat:=if i∈q then q else q++[i]
def Turns.wake (t:Turns) (i:Nat):Turns:=if t.who=i then t else{t with q:=qpush t.q i}
def Turns.begin (t:Turns):Turns×Option Nat:=
 if t.who≠-1 then(t,none)else match t.q with
 | []=>(t,none)
 | i::r=>({t with q:=r,who:=i,has:=t.has.set i (min (t.has.getD i 0+t.quantum) 2000000000)},some i)
def Turns.pay (t:Turns) (price:Int):Turns×Bool:=
 if t.who= -1 then(t,false)else if t.has.getD t.who.toNat 0<max price 0 then(t,false)else({t with has:=t.has.set t.who.toNat (t.has.getD t.who.toNat 0-max price 0)},true)
def Turns.fin (t:Turns) (again:Bool):Turns:=
 if t.who= -1 then t else if again then{t with who:=-1,q:=qpush t.q t.who.toNat} else{t with who:=-1,has:=t.has.set t.who.toNat 0}
def Turns.leave (t:Turns) (i:Nat):Turns:=
 if t.who=i then t.fin false else if i∈t.q then{t with q:=t.q.erase i,has:=t.has.set i 0} else t
def lexle (x y:Int×Int):Prop:=x.1<y.1∨(x.1=y.1∧x.2≤y.2)
instance (x y:Int×Int):Decidable (lexle x y):=by unfold lexle;infer_instance
def tmMin:List Int→Nat→Option (Int×Nat)
 | [],_=>none
 | t::r,k=>match tmMin r (k+1)with
  | none=>if t=never then none else some (t,k)
  | some (t',k')=>if t≤t' then some (t,k)else some (t',k')
def tmDue:Nat→List Int→Int→List (Int×Nat)×List Int
 | 0,tm,_=>([],tm)
 | f+1,tm,now=>match tmMin tm 0 with
  | none=>([],tm)
  | some (t,k)=>if tdue t now then((t,k)::(tmDue f (tm.set k never) now).1,(tmDue f (tm.set k never) now).2)else([],tm)
def tmSet (tm:List Int) (k:Nat) (t:Int):List Int:=tm.set k (if t=never then never else own t)
structure Slots where
 who:List Int
 next:Int
def Slots.new (most:Int):Slots:=⟨List.replicate (min (max most 1) 1024).toNat (-1),0⟩
def Slots.first (s:Slots):Nat:=s.who.idxOf (-1)
def Slots.open (s:Slots):Slots:=⟨s.who.set s.first s.next,s.next+1⟩
def Slots.skip (s:Slots):Slots:=if s.next≥4096 then s else{s with next:=s.next+1}
def Slots.skipped (s:Slots):Int:=if s.next≥4096 then -1 else s.next
def Slots.slot (s:Slots) (id:Int):Option Nat:=if 0≤id∧id∈s.who then some (s.who.idxOf id)else none
def Slots.close (s:Slots) (id:Int):Slots:=match s.slot id with
 | some k=>{s with who:=s.who.set k (-1)}
 | none=>s
def Slots.free (s:Slots):Nat:=s.who.count (-1)
def zcp (x:Int):List Int→List Int
 | []=>[x]
 | y::l=>if x≤y then x::y::l else y::zcp x l
def sortI:List Int→List Int
 | []=>[]
 | x::l=>zcp x (sortI l)
def Slots.live (s:Slots):List Int:=sortI (s.who.filter λx=>x != -1)
def wN (s i:Nat):Nat:=(s >>> (64*i)) % 2 ^ 64
def wI (s:Nat):List Int:=[(wN s 0:Nat),(wN s 1:Nat),(wN s 2:Nat),(wN s 3:Nat)]
theorem wN_lt (s i:Nat):wN s i<18446744073709551616:=Nat.mod_lt _ (by decide)
theorem zgl (s i j:Nat):(wN s i).testBit j=(decide (j<64)&&s.testBit (64*i+j)):=by
 unfold wN;rw [Nat.testBit_mod_two_pow,Nat.testBit_shiftRight]
theorem zq2 {x s i:Nat} (hx:x<2 ^ 64) (h:∀j,j<64→x.testBit j=s.testBit (64*i+j)):x=wN s i:=by
 apply Nat.eq_of_testBit_eq;intro j;rw [zgl];by_cases hj:j<64
 ·simp [hj,h j hj]
 ·rw [Nat.testBit_lt_two_pow (QY hx (Nat.pow_le_pow_right (by decide) (by omega)))];simp [hj]
theorem zkz (s:Nat) {i:Nat} (h:i<4):(wI s).getD i 0=(wN s i:Nat):=by
 match i,h with
 | 0,_=>rfl
 | 1,_=>rfl
 | 2,_=>rfl
 | 3,_=>rfl
theorem zi9 (s:Nat):(wI s).length=4:=rfl
def sWith (s b:Nat):Nat:=s|||2 ^ b
theorem zne (s b:Nat):wN (sWith s b) (b / 64)=wN s (b / 64)|||2 ^ (b % 64):=by
 symm
 apply zq2 (Nat.or_lt_two_pow (wN_lt _ _) (Nat.pow_lt_pow_right (by decide) (Nat.mod_lt _ (by decide))));intro j hj;rw [Nat.testBit_or,zgl,sWith,Nat.testBit_or,Nat.testBit_two_pow,Nat.testBit_two_pow];simp only [hj,decide_true,Bool.true_and];congr 1;simp only [decide_eq_decide];omega
theorem zau (s b:Nat) {i:Nat} (h:i≠b / 64):wN (sWith s b) i=wN s i:=by
 symm
 apply zq2 (wN_lt _ _);intro j hj;rw [zgl,sWith,Nat.testBit_or,Nat.testBit_two_pow]
 have:¬b=64*i+j:=by omega
 simp [hj,this]
theorem z0l (s b:Nat) (h:b<256):(wI s).set (b / 64) ((wN s (b / 64)|||2 ^ (b % 64):Nat):Int)=wI (sWith s b):=by
 rw [←zne];have h4:b / 64<4:=by omega
 unfold wI
 match hi:b / 64,h4 with
 | 0,_=>rw [zau s b (i:=1) (by omega),zau s b (i:=2) (by omega),zau s b (i:=3) (by omega)];rfl
 | 1,_=>rw [zau s b (i:=0) (by omega),zau s b (i:=2) (by omega),zau s b (i:=3) (by omega)];rfl
 | 2,_=>rw [zau s b (i:=0) (by omega),zau s b (i:=1) (by omega),zau s b (i:=3) (by omega)];rfl
 | 3,_=>rw [zau s b (i:=0) (by omega),zau s b (i:=1) (by omega),zau s b (i:=2) (by omega)];rfl
def sOr (s t:Nat):Nat:=s|||t
theorem wN_or (s t i:Nat):wN (sOr s t) i=wN s i|||wN t i:=by
 symm
 apply zq2 (Nat.or_lt_two_pow (wN_lt _ _) (wN_lt _ _));intro j hj;rw [Nat.testBit_or,zgl,zgl,sOr,Nat.testBit_or];simp [hj]
def sNot (s:Nat):Nat:=(2 ^ 256-1) ^^^ s
theorem z2k (s:Nat) {i:Nat} (h:i<4):wN (sNot s) i=18446744073709551615 ^^^ wN s i:=by
 symm
 apply zq2 (Nat.xor_lt_two_pow (by decide) (wN_lt _ _));intro j hj;have e:(18446744073709551615:Nat)=2 ^ 64-1:=by decide
 rw [e,Nat.testBit_xor,zgl,sNot,Nat.testBit_xor,Nat.testBit_two_pow_sub_one,Nat.testBit_two_pow_sub_one]
 have:64*i+j<256:=by omega
 simp [hj,this]
def sHas (s b:Nat):Bool:=s.testBit b
theorem zue (s b:Nat):((wN s (b / 64) / 2 ^ (b % 64)) % 2 == 1)=sHas s b:=by
 have h:=zgl s (b / 64) (b % 64);have e:64*(b / 64)+b % 64=b:=by omega
 rw [e,Nat.testBit_eq_decide_div_mod_eq]at h;have h2:b % 64<64:=Nat.mod_lt _ (by decide);simp only [h2,decide_true,Bool.true_and]at h;rw [sHas,←h];by_cases hc:wN s (b / 64) / 2 ^ (b % 64) % 2=1 <;>simp [hc]
def sFrom (s from_:Nat):Nat→Nat
 | 0=>s
 | n+1=>sFrom (sWith s from_) (from_+1) n
def sSpan (a b:Nat):Nat:=sFrom 0 a (b+1-a)
theorem zn0 (s b j:Nat):(sWith s b).testBit j=(s.testBit j||decide (b=j)):=by
 rw [sWith,Nat.testBit_or,Nat.testBit_two_pow]
theorem zjq:∀(n s a j:Nat),(sFrom s a n).testBit j=(s.testBit j||(decide (a≤j)&&decide (j<a+n)))
 | 0,s,a,j=>by
  have:¬(a≤j∧j<a):=by omega
  simp only [sFrom,Nat.add_zero];rw [←Bool.decide_and,decide_eq_false this,Bool.or_false]
 | n+1,s,a,j=>by
  rw [sFrom,zjq n,zn0,Bool.eq_iff_iff];simp only [Bool.or_eq_true,JT,JD];by_cases hs:s.testBit j=true
  ·simp [hs]
  ·simp only [hs,QA,false_or];omega
theorem zsx (s a n:Nat):sFrom s a (n+1)=sWith (sFrom s a n) (a+n):=by
 apply Nat.eq_of_testBit_eq;intro j;rw [zjq,zn0,zjq,Bool.eq_iff_iff];simp only [Bool.or_eq_true,JT,JD];by_cases hs:s.testBit j=true
 ·simp [hs]
 ·simp only [hs,QA,false_or];omega
theorem zxu {s b:Nat} (hs:s<2 ^ 256) (hb:b<256):sWith s b<2 ^ 256:=Nat.or_lt_two_pow hs (Nat.pow_lt_pow_right (by decide) hb)
theorem zuc {s t:Nat} (hs:s<2 ^ 256) (ht:t<2 ^ 256):sOr s t<2 ^ 256:=Nat.or_lt_two_pow hs ht
theorem zud {s:Nat} (hs:s<2 ^ 256):sNot s<2 ^ 256:=Nat.xor_lt_two_pow (by decide) hs
theorem zrj:∀(n:Nat) {s a:Nat},s<2 ^ 256→a+n≤256→sFrom s a n<2 ^ 256
 | 0,_,_,hs,_=>hs
 | n+1,s,a,hs,h=>by rw [sFrom];exact zrj n (zxu hs (by omega)) (by omega)
theorem zcd {a b:Nat} (hb:b<256):sSpan a b<2 ^ 256:=by
 unfold sSpan;by_cases h:a≤256
 ·exact zrj _ (by decide) (by omega)
 ·have:b+1-a=0:=by omega
  rw [this];show(0:Nat)<2 ^ 256;decide
def cAt (s:List UInt8) (k:Nat):Nat:=(s.getD k 0).toNat
theorem zl1 (s:List UInt8) (k:Nat):cAt s k<256:=UInt8.toNat_lt _
def isAt (s:List UInt8) (k:Nat) (x:Int):Bool:=decide (k<s.length)&&((cAt s k:Int) == x)
abbrev Res (α:Type):=Except (Nat×Int) (α×Nat)
def rSign (s:List UInt8) (k:Nat):Res Nat:=
 if isAt s k 37 then(if k+1≥s.length then .error (s.length,3)else .ok (cAt s (k+1),k+2))
 else if k≥s.length then .error (s.length,3)
 else if isAt s k 93 then .error (k,2)
 else if isAt s k 45 then .error (k,2)
 else .ok (cAt s k,k+1)
def rPart (s:List UInt8) (k:Nat):Res Nat:=match rSign s k with
 | .error e=> .error e
 | .ok (a,j)=>if isAt s j 45 then(match rSign s (j+1)with
   | .error e=> .error e
   | .ok (b,i)=>if b<a then .error (i-1,12)else .ok (sSpan a b,i))
  else .ok (sSpan a a,j)
def rRest (s:List UInt8):Nat→Nat→Nat→Res Nat
 | 0,_,k=> .error (k,3)
 | f+1,x,k=>if isAt s k 93 then .ok (x,k)else match rPart s k with
  | .error e=> .error e
  | .ok (y,j)=>rRest s f (sOr x y) j
def zdo (s:List UInt8):Res Nat:=
 if isAt s 0 91 then(match rPart s (if isAt s 1 94 then 2 else 1)with
  | .error e=> .error e
  | .ok (x,j)=>match rRest s (s.length+1) x j with
   | .error e=> .error e
   | .ok (y,i)=> .ok (if isAt s 1 94 then sNot y else y,i+1))
 else if s.length=0 then .error (0,3)else .error (0,2)
theorem zka {s:List UInt8} {k:Nat} {x:Int} (h:isAt s k x=true):k<s.length:=by
 unfold isAt at h;simp only [JT,JD]at h;exact h.1
theorem zgu {s:List UInt8} {k a j:Nat} (h:rSign s k= .ok (a,j)):k<j∧j≤s.length∧a<256:=by
 unfold rSign at h;split at h
 ·split at h
  ·cases h
  ·cases h;exact⟨by omega,by omega,zl1 _ _⟩
 ·split at h
  ·cases h
  ·split at h
   ·cases h
   ·split at h
    ·cases h
    ·cases h;exact⟨by omega,by omega,zl1 _ _⟩
theorem zgv {s:List UInt8} {k p:Nat} {e:Int} (h:rSign s k= .error (p,e)):p≤s.length∧e≠0∧(k≤s.length→k≤p):=by
 unfold rSign at h;split at h
 ·split at h
  ·cases h;exact⟨by omega,by decide,by omega⟩
  ·cases h
 ·split at h
  ·cases h;exact⟨by omega,by decide,by omega⟩
  ·split at h
   ·cases h;exact⟨by omega,by decide,by omega⟩
   ·split at h
    ·cases h;exact⟨by omega,by decide,by omega⟩
    ·cases h
theorem zis {s:List UInt8} {k x j:Nat} (h:rPart s k= .ok (x,j)):k<j∧j≤s.length∧x<2 ^ 256:=by
 unfold rPart at h;split at h
 ·cases h
 ·rename_i a i h1;obtain⟨g1,g2,g3⟩:=zgu h1;split at h
  ·split at h
   ·cases h
   ·rename_i b i2 h2;obtain⟨g4,g5,g6⟩:=zgu h2;split at h
    ·cases h
    ·cases h;exact⟨by omega,by omega,zcd (by omega)⟩
  ·cases h;exact⟨by omega,by omega,zcd (by omega)⟩
theorem zgw {s:List UInt8} {k p:Nat} {e:Int} (h:rPart s k= .error (p,e)):p≤s.length∧e≠0:=by
 unfold rPart at h;split at h
 ·rename_i e1 h1;cases h;have:=zgv h1;exact⟨this.1,this.2.1⟩
 ·rename_i a i h1;split at h
  ·split at h
   ·rename_i e1 h2;cases h;have:=zgv h2;exact⟨this.1,this.2.1⟩
   ·rename_i b i2 h2;obtain⟨g4,g5,g6⟩:=zgu h2;split at h
    ·cases h;exact⟨by omega,by decide⟩
    ·cases h
  ·cases h
abbrev Item:=Bool×Nat
def gItem (s:List UInt8):Res Item:=
 if cAt s 0=42 then .ok ((true,0),1)
 else if cAt s 0=63 then .ok ((false,sSpan 0 255),1)
 else if cAt s 0=91 then(match zdo s with
  | .error e=> .error e
  | .ok (x,j)=> .ok ((false,x),j))
 else if cAt s 0=93 then .error (0,2)
 else if cAt s 0=37 then(if s.length=1 then .error (1,3)else .ok ((false,sSpan (cAt s 1) (cAt s 1)),2))
 else .ok ((false,sSpan (cAt s 0) (cAt s 0)),1)
def gGo (s:List UInt8):Nat→List Item→Nat→Except (Nat×Int) (List Item)
 | 0,out,_=> .ok out
 | f+1,out,k=>if k<s.length then(if out.length=60 then .error (k,4)else match gItem (s.drop k)with
   | .error (n,e)=> .error (k+n,e)
   | .ok (x,n)=>gGo s f (out++[x]) (k+n))
  else .ok out
def zo4 (s:List UInt8):Except (Nat×Int) (List Item):=gGo s (s.length+1) [] 0
def zbh (p:Item→Bool) (l:List Item):Nat→Nat
 | 0=>0
 | k+1=>if p (l.getD k (false,0))then zbh p l k|||2 ^ k else zbh p l k
theorem zhg (p:Item→Bool) (l:List Item):∀k,zbh p l k<2 ^ k
 | 0=>by rw [zbh];decide
 | k+1=>by
  have h:=zhg p l k;have h2:2 ^ k<2 ^ (k+1):=Nat.pow_lt_pow_right (by decide) (by omega);rw [zbh];split
  ·exact Nat.or_lt_two_pow (by omega) h2
  ·omega
def tRuns (l:List Item):Nat:=zbh (λx=>x.1) l l.length
def tHas (l:List Item) (b:Nat):Nat:=zbh (λx=>sHas x.2 b) l l.length
def hasL (l:List Item) (k:Nat):List Int:=(List.range 256).map λb=>(zbh (λx=>sHas x.2 b) l k:Nat)
def cl (r x:Nat):Nat→Bool
 | 0=>x.testBit 0
 | i+1=>x.testBit (i+1)||(cl r x i&&r.testBit i)
def clN (r x:Nat):Nat→Nat
 | 0=>0
 | k+1=>if cl r x k then clN r x k|||2 ^ k else clN r x k
theorem zsi (r x:Nat):∀k,clN r x k<2 ^ k
 | 0=>by rw [clN];decide
 | k+1=>by
  have h:=zsi r x k;have h2:2 ^ k<2 ^ (k+1):=Nat.pow_lt_pow_right (by decide) (by omega);rw [clN];split
  ·exact Nat.or_lt_two_pow (by omega) h2
  ·omega
theorem zwr (r x:Nat) (j:Nat):∀k,(clN r x k).testBit j=(decide (j<k)&&cl r x j)
 | 0=>by simp [clN]
 | k+1=>by
  rw [clN];have ih:=zwr r x j k;by_cases hj:j=k
  ·subst hj;have e1:decide (j<j)=false:=by simp
   have e2:decide (j<j+1)=true:=by simp
   rw [e1,Bool.false_and]at ih;rw [e2,Bool.true_and];cases hq:cl r x j with
   | true=>rw [if_pos rfl,Nat.testBit_or,ih,Nat.testBit_two_pow];simp
   | false=>rw [if_neg (by decide)];exact ih
  ·have e:decide (j<k+1)=decide (j<k):=by simp only [decide_eq_decide];omega
   split
   ·have:¬k=j:=λh=>hj h.symm
    rw [Nat.testBit_or,ih,Nat.testBit_two_pow,e];simp [this]
   ·rw [ih,e]
theorem zzp (z j:Nat):(z*2).testBit (j+1)=z.testBit j:=by
 have:z*2=z <<< 1:=by rw [Nat.shiftLeft_eq]
 rw [this,Nat.testBit_shiftLeft];simp
theorem z0o (z:Nat):(z*2).testBit 0=false:=by
 have:z*2=z <<< 1:=by rw [Nat.shiftLeft_eq]
 rw [this,Nat.testBit_shiftLeft];simp
theorem z3u {r x y n:Nat} (h0:y<2 ^ (n+1)) (h1:∀i,y.testBit i=true→cl r x i=true) (h2:∀i,i≤n→x.testBit i=true→y.testBit i=true) (h3:y|||((y&&&r)*2)=y):y=clN r x (n+1):=by
 apply Nat.eq_of_testBit_eq;intro j;rw [zwr];by_cases hj:j<n+1
 ·simp only [hj,decide_true,Bool.true_and];rw [Bool.eq_iff_iff];refine⟨h1 j,λh=> ?_⟩
  induction j with
  | zero=>exact h2 0 (JJ _) h
  | succ i ih=>
   rw [cl,Bool.or_eq_true]at h;rcases h with h | h
   ·exact h2 _ (by omega) h
   ·rw [JT]at h;have h4:=ih (by omega) h.1;rw [←h3,Nat.testBit_or,zzp,Nat.testBit_and,h4,h.2];simp
 ·simp only [hj,decide_false,Bool.false_and];exact Nat.testBit_lt_two_pow (QY h0 (Nat.pow_le_pow_right (by decide) (by omega)))
def zcg (l:List Item) (x:Nat):Nat:=clN (tRuns l) x (l.length+1)
def zer (l:List Item):Nat:=zcg l 1
def tStep (l:List Item) (x b:Nat):Nat:=zcg l ((zcg l x&&&tRuns l)|||((zcg l x&&&tHas l b)*2))
def tSeek (l:List Item) (x b:Nat):Nat:=tStep l x b|||zer l
def tDone (l:List Item) (x:Nat):Bool:=(zcg l x).testBit l.length
theorem znp (l:List Item) (x:Nat):zcg l x<2 ^ (l.length+1):=zsi _ _ _
theorem zq7 (l:List Item) (x b:Nat):tSeek l x b<2 ^ (l.length+1):=Nat.or_lt_two_pow (zsi _ _ _) (zsi _ _ _)
def oddI (x:Item):Bool:=x.1&&x.2 != 0
def goodI (l:List Item):Bool:=decide (l.length≤60)&& !l.any oddI
def zse (l:List Item):Bool:= !l.any λx=> !x.1
def za7 (s:List UInt8):Except (Nat×Int) (List Item):=match zo4 s with
 | .error e=> .error e
 | .ok l=>if goodI l=false then .error (0,2)else if zse l=true then .error (0,9)else .ok l
abbrev Pats:=List (List Item×Nat)
def aFeed (m:Pats) (c:Nat):Pats:=m.map λy=>(y.1,tSeek y.1 y.2 c)
def zfa (m:Pats):Option Nat:=m.findIdx? λy=>tDone y.1 y.2
def zkt (m:Pats):Pats:=m.map λy=>(y.1,zer y.1)
def aGo:List (List UInt8)→Nat→Pats→Except (Nat×Int) Pats
 | [],_,out=> .ok out
 | s::l,i,out=>match za7 s with
  | .error (_,e)=> .error (i,e)
  | .ok p=>aGo l (i+1) (out++[(p,zer p)])
def aNew (l:List (List UInt8)):Except (Nat×Int) Pats:=if l.length>8 then .error (0,4)else aGo l 0 []
structure Fnd where
 mat:Bool
 full:Bool
 arm:Nat
 gone:Nat
 read:Nat
structure Lk where
 b:List UInt8
 seen:Nat
 m:Pats
 r:List UInt8
def hFeed (next:Lk→Nat→Fnd×Lk) (m:Pats) (seen:Nat) (b r:List UInt8) (rd:Nat):Fnd×Lk:=
 match zfa (aFeed m (b.getD seen 0).toNat)with
 | some k=>(⟨true,false,k,seen+1,rd⟩,⟨b.drop (seen+1),0,zkt (aFeed m (b.getD seen 0).toNat),r⟩)
 | none=>next ⟨b,seen+1,aFeed m (b.getD seen 0).toNat,r⟩ rd
def hLook (win:Int):Nat→Lk→Nat→Fnd×Lk
 | 0,s,rd=>(⟨false,false,0,0,rd⟩,s)
 | f+1,s,rd=>
  if s.seen=s.b.length then
   match s.r with
   | []=>(⟨false,false,0,0,rd⟩,s)
   | c::r=>if(s.b.length:Int)=win then(⟨false,true,0,0,rd⟩,s)else hFeed (hLook win f) s.m s.seen (s.b++[c]) r (rd+1)
  else hFeed (hLook win f) s.m s.seen s.b s.r rd
def hlook (win:Int) (s:Lk):Fnd×Lk:=hLook win (s.b.length-s.seen+s.r.length+1) s 0
end Go.Proofs.YtbjlfobjngogkaaGreatDoor
namespace Go.Proofs.YtbjlfobjngogkaaGreatDoor
open Go
variable {K:Value→SP} {cs:St}
@[reducible] def s386 (x0:Option Addr) (y0:Nat) (z0:Nat) (K:Value→SP):SP:=
 br (decide ((y0:Int)>8)) (K (.tuple (Array.mk [.pointer none,.int .i64 0,.int .i64 4])))<|box 508 (.agg (.mk [.slice none 0 0,.int .i64 0])) λa=>Lp (λi j=>unI .i64 (j.headD undef) λb=>br (decide (b<(y0:Int))) (ix 144 (.slice x0 y0 z0) (b) λk=>ldS 9 (k) λl=>fn 415 [.string l]<|uT λc=>gP c 0 λg=>gI .i64 c 1 λ_=>gI .i64 c 2 λh=>br (h != 0) (K (.tuple (Array.mk [.pointer none,.int .i64 b,.int .i64 h])))<|ldL 506 (a.add 0) λd e f=>fn 416 [.pointer g]<|uI .u64 λm=>sB 506 (a.add 0) (.slice d e f)<|sm (Instr.buildSlice 506 1 (Array.mk [(0,.agg (.mk [.pointer g,.int .u64 m]))]))<|uL λn o p=>sB 506 (a.add 0) (.slice d e f)<|sm (Builtin.append_ (Array.mk [506,506]) 506 (Array.mk [.slice d e f,.slice n o p]))<|uL λq r s=>st 506 (a.add 0) (.slice q r s)<|i [.int .i64 (w64 (b+1))])<|K (.tuple (Array.mk [.pointer (some a),.int .i64 0,.int .i64 0]))) [.int .i64 0]
theorem f386 {x0:Option Addr} {y0 z0:Nat} (h:s386 x0 y0 z0 K cs):fn 386 [.slice x0 y0 z0] K cs:=fO (an:=⟨[(5,[(18,.int .i64)])],[]⟩) Tryz.func386 h
@[reducible] def s415 (x0:ByteArray) (K:Value→SP):SP:=
 fn 428 [.string x0]<|uT λa=>gL a 0 λd e f=>gI .i64 a 1 λg=>gI .i64 a 2 λb=>br (b != 0) (K (.tuple (Array.mk [.pointer none,.int .i64 g,.int .i64 b])))<|fn 429 [.slice d e f]<|uT λc=>gP c 0 λh=>gI .i64 c 1 λi=>K (.tuple (Array.mk [.pointer h,.int .i64 0,.int .i64 i]))
theorem f415 {x0:ByteArray} (h:s415 x0 K cs):fn 415 [.string x0] K cs:=fO (an:=⟨[],[]⟩) Tryz.func415 h
@[reducible] def s420 (x0:ByteArray) (K:Value→SP):SP:=
 fn 415 [.string x0]<|uT λa=>gP a 0 λ_=>gI .i64 a 1 λb=>gI .i64 a 2 λc=>K (.tuple (Array.mk [.int .i64 b,.int .i64 c]))
theorem f420 {x0:ByteArray} (h:s420 x0 K cs):fn 420 [.string x0] K cs:=fO (an:=⟨[],[]⟩) Tryz.func420 h
@[reducible] def s448 (x0:Addr) (x1:Int) (K:Value→SP):SP:=
 ldI .i64 3 (x0.add 1) λg=>st 3 (x0.add 1) (.int .i64 (w64 (g+1)))<|ldL 506 (x0.add 0) λ_ h _=>Lp (λd e=>unI .i64 (e.headD undef) λf=>unB (e.tail.headD undef) λc=>unI .i64 (e.tail.tail.headD undef) λa=>br (decide (a<(h:Int))) (ldL 506 (x0.add 0) λi j k=>ix 506 (.slice i j k) (a) λb=>ldP 509 (b.add 0) λl=>ldI .u64 396 (b.add 1) λm=>fn 462 [.pointer l,.int .u64 m,.int .u8 x1]<|uI .u64 λn=>st 396 (b.add 1) (.int .u64 n)<|br (!c) (ldP 509 (b.add 0) λo=>ldI .u64 396 (b.add 1) λp=>fn 463 [.pointer o,.int .u64 p]<|uB λq=>br (q) (d [.int .i64 a,.bool true,.int .i64 (w64 (a+1))])<|d [.int .i64 f,.bool c,.int .i64 (w64 (a+1))])<|d [.int .i64 f,.bool c,.int .i64 (w64 (a+1))])<|K (.tuple (Array.mk [.int .i64 f,.bool c]))) [.int .i64 0,.bool false,.int .i64 0]
theorem f448 {x0:Addr} {x1:Int} (h:s448 x0 x1 K cs):fn 448 [.pointer (some x0),.int .u8 x1] K cs:=fO (an:=⟨[(6,[(6,.int .i64),(7,.bool),(24,.int .i64)])],[]⟩) Tryz.func448 h
@[reducible] def s449 (x0:Addr) (K:Value→SP):SP:=
 fn 464 [.pointer (some x0)]<|uP λa=>nn (a) λb=>ldA 508 (b) λc=>st 508 (x0) (.agg (.mk c))<|K (undef)
theorem f449 {x0:Addr} (h:s449 x0 K cs):fn 449 [.pointer (some x0)] K cs:=fO (an:=⟨[],[]⟩) Tryz.func449 h
@[reducible] def s464 (x0:Addr) (K:Value→SP):SP:=
 box 508 (.agg (.mk [.slice none 0 0,.int .i64 0])) λa=>ldL 506 (x0.add 0) λi g j=>Lp (λk l=>unI .i64 (l.headD undef) λc=>br (decide (c<(g:Int))) (ix 506 (.slice i g j) (c) λm=>ldA 513 (m) λn=>new 513 λb=>st 513 (b) (.agg (.mk n))<|ldL 506 (a.add 0) λd e f=>ldP 509 (b.add 0) λh=>ldP 509 (b.add 0) λo=>fn 416 [.pointer o]<|uI .u64 λp=>sB 509 (b.add 0) (.pointer h)<|sB 506 (a.add 0) (.slice d e f)<|sm (Instr.buildSlice 506 1 (Array.mk [(0,.agg (.mk [.pointer h,.int .u64 p]))]))<|uL λq r s=>sB 506 (a.add 0) (.slice d e f)<|sm (Builtin.append_ (Array.mk [506,506]) 506 (Array.mk [.slice d e f,.slice q r s]))<|uL λt u v=>st 506 (a.add 0) (.slice t u v)<|k [.int .i64 (w64 (c+1))])<|K (.pointer (some a))) [.int .i64 0]
theorem f464 {x0:Addr} (h:s464 x0 K cs):fn 464 [.pointer (some x0)] K cs:=fO (an:=⟨[(3,[(13,.int .i64)])],[]⟩) Tryz.func464 h
@[reducible] def s416 (x0:Addr) (K:Value→SP):SP:=
 fn 430 [.pointer (some x0)]<|uI .u64 λa=>K (.int .u64 a)
theorem f416 {x0:Addr} (h:s416 x0 K cs):fn 416 [.pointer (some x0)] K cs:=fO (an:=⟨[],[]⟩) Tryz.func416 h
@[reducible] def s429 (x0:Option Addr) (y0:Nat) (z0:Nat) (K:Value→SP):SP:=
 fn 442 [.slice x0 y0 z0]<|uB λh=>br (!h) (K (.tuple (Array.mk [.pointer none,.int .i64 2])))<|fn 443 [.slice x0 y0 z0]<|uB λi=>br (i) (K (.tuple (Array.mk [.pointer none,.int .i64 9])))<|box 534 (.agg (.mk [.int .i64 (y0:Int),.int .u64 0,.int .u64 0,.int .u64 0,.int .u64 0,.int .u64 0,.int .u64 0,.int .u64 0,.int .u64 0,.int .u64 0,.int .u64 0,.int .u64 0,.int .u64 0,.int .u64 0,.int .u64 0,.int .u64 0,.int .u64 0,.int .u64 0,.int .u64 0,.int .u64 0,.int .u64 0,.int .u64 0,.int .u64 0,.int .u64 0,.int .u64 0,.int .u64 0,.int .u64 0,.int .u64 0,.int .u64 0,.int .u64 0,.int .u64 0,.int .u64 0,.int .u64 0,.int .u64 0,.int .u64 0,.int .u64 0,.int .u64 0,.int .u64 0,.int .u64 0,.int .u64 0,.int .u64 0,.int .u64 0,.int .u64 0,.int .u64 0,.int .u64 0,.int .u64 0,.int .u64 0,.int .u64 0,.int .u64 0,.int .u64 0,.int .u64 0,.int .u64 0,.int .u64 0,.int .u64 0,.int .u64 0,.int .u64 0,.int .u64 0,.int .u64 0,.int .u64 0,.int .u64 0,.int .u64 0,.int .u64 0,.int .u64 0,.int .u64 0,.int .u64 0,.int .u64 0,.int .u64 0,.int .u64 0,.int .u64 0,.int .u64 0,.int .u64 0,.int .u64 0,.int .u64 0,.int .u64 0,.int .u64 0,.int .u64 0,.int .u64 0,.int .u64 0,.int .u64 0,.int .u64 0,.int .u64 0,.int .u64 0,.int .u64 0,.int .u64 0,.int .u64 0,.int .u64 0,.int .u64 0,.int .u64 0,.int .u64 0,.int .u64 0,.int .u64 0,.int .u64 0,.int .u64 0,.int .u64 0,.int .u64 0,.int .u64 0,.int .u64 0,.int .u64 0,.int .u64 0,.int .u64 0,.int .u64 0,.int .u64 0,.int .u64 0,.int .u64 0,.int .u64 0,.int .u64 0,.int .u64 0,.int .u64 0,.int .u64 0,.int .u64 0,.int .u64 0,.int .u64 0,.int .u64 0,.int .u64 0,.int .u64 0,.int .u64 0,.int .u64 0,.int .u64 0,.int .u64 0,.int .u64 0,.int .u64 0,.int .u64 0,.int .u64 0,.int .u64 0,.int .u64 0,.int .u64 0,.int .u64 0,.int .u64 0,.int .u64 0,.int .u64 0,.int .u64 0,.int .u64 0,.int .u64 0,.int .u64 0,.int .u64 0,.int .u64 0,.int .u64 0,.int .u64 0,.int .u64 0,.int .u64 0,.int .u64 0,.int .u64 0,.int .u64 0,.int .u64 0,.int .u64 0,.int .u64 0,.int .u64 0,.int .u64 0,.int .u64 0,.int .u64 0,.int .u64 0,.int .u64 0,.int .u64 0,.int .u64 0,.int .u64 0,.int .u64 0,.int .u64 0,.int .u64 0,.int .u64 0,.int .u64 0,.int .u64 0,.int .u64 0,.int .u64 0,.int .u64 0,.int .u64 0,.int .u64 0,.int .u64 0,.int .u64 0,.int .u64 0,.int .u64 0,.int .u64 0,.int .u64 0,.int .u64 0,.int .u64 0,.int .u64 0,.int .u64 0,.int .u64 0,.int .u64 0,.int .u64 0,.int .u64 0,.int .u64 0,.int .u64 0,.int .u64 0,.int .u64 0,.int .u64 0,.int .u64 0,.int .u64 0,.int .u64 0,.int .u64 0,.int .u64 0,.int .u64 0,.int .u64 0,.int .u64 0,.int .u64 0,.int .u64 0,.int .u64 0,.int .u64 0,.int .u64 0,.int .u64 0,.int .u64 0,.int .u64 0,.int .u64 0,.int .u64 0,.int .u64 0,.int .u64 0,.int .u64 0,.int .u64 0,.int .u64 0,.int .u64 0,.int .u64 0,.int .u64 0,.int .u64 0,.int .u64 0,.int .u64 0,.int .u64 0,.int .u64 0,.int .u64 0,.int .u64 0,.int .u64 0,.int .u64 0,.int .u64 0,.int .u64 0,.int .u64 0,.int .u64 0,.int .u64 0,.int .u64 0,.int .u64 0,.int .u64 0,.int .u64 0,.int .u64 0,.int .u64 0,.int .u64 0,.int .u64 0,.int .u64 0,.int .u64 0,.int .u64 0,.int .u64 0,.int .u64 0,.int .u64 0,.int .u64 0,.int .u64 0,.int .u64 0,.int .u64 0,.int .u64 0,.int .u64 0,.int .u64 0,.int .u64 0,.int .u64 0,.int .u64 0,.int .u64 0,.int .u64 0,.int .u64 0,.int .u64 0,.int .u64 0,.int .u64 0,.int .u64 0,.int .u64 0,.int .u64 0])) λb=>Lp (λj k=>unI .i64 (k.headD undef) λc=>br (decide (c<(y0:Int))) (ix 246 (.slice x0 y0 z0) (c) λl=>ldA 416 (l) λm=>new 416 λd=>st 416 (d) (.agg (.mk m))<|qy (bsem BinOp.shl 396 (Operand.const (.int .u64 1)) (Operand.tmp 28) (.int .u64 1) (.int .u64 (IntKind.wrap .u64 c)))<|uI .u64 λe=>Jn (λ_=>Lp (λf n=>unI .i64 (n.headD undef) λa=>br (decide (a<256)) (ldA 412 (d.add 1) λo=>fn 444 [.agg (.mk o),.int .u8 (IntKind.wrap .u8 a)]<|uB λp=>br (p) (ix 532 (.pointer (some (b.add 2))) (a) λq=>ldI .u64 396 (q) λr=>ix 532 (.pointer (some (b.add 2))) (a) λs=>st 396 (s) (.int .u64 (IntKind.wrap .u64 ↑(BitVec.ofInt 64 r|||BitVec.ofInt 64 e).toNat))<|f [.int .i64 (w64 (a+1))])<|f [.int .i64 (w64 (a+1))])<|j [.int .i64 (w64 (c+1))]) [.int .i64 0])<|λg=>ldB 4 (d.add 0) λt=>br (t) (ldI .u64 396 (b.add 1) λu=>st 396 (b.add 1) (.int .u64 (IntKind.wrap .u64 ↑(BitVec.ofInt 64 u|||BitVec.ofInt 64 e).toNat))<|g [])<|g [])<|K (.tuple (Array.mk [.pointer (some b),.int .i64 0]))) [.int .i64 0]
theorem f429 {x0:Option Addr} {y0 z0:Nat} (h:s429 x0 y0 z0 K cs):fn 429 [.slice x0 y0 z0] K cs:=fO (an:=⟨[(7,[(22,.int .i64)]),(13,[(40,.int .i64)])],[(12,[])]⟩) Tryz.func429 h
@[reducible] def s430 (x0:Addr) (K:Value→SP):SP:=
 fn 445 [.pointer (some x0),.int .u64 1]<|uI .u64 λa=>K (.int .u64 a)
theorem f430 {x0:Addr} (h:s430 x0 K cs):fn 430 [.pointer (some x0)] K cs:=fO (an:=⟨[],[]⟩) Tryz.func430 h
@[reducible] def s445 (x0:Addr) (x1:Int) (K:Value→SP):SP:=
 ldI .i64 3 (x0.add 0) λc=>qy (bsem BinOp.shl 396 (Operand.const (.int .u64 2)) (Operand.tmp 11) (.int .u64 2) (.int .u64 (IntKind.wrap .u64 c)))<|uI .u64 λd=>Lp (λe f=>unI .u64 (f.headD undef) λa=>ldI .u64 396 (x0.add 1) λb=>br (IntKind.wrap .u64 ↑(BitVec.ofInt 64 a|||BitVec.ofInt 64 (IntKind.wrap .u64 (IntKind.wrap .u64 ↑(BitVec.ofInt 64 a&&&BitVec.ofInt 64 b).toNat*2))).toNat == a) (K (.int .u64 a))<|e [.int .u64 (IntKind.wrap .u64 ↑(BitVec.ofInt 64 a|||BitVec.ofInt 64 (IntKind.wrap .u64 (IntKind.wrap .u64 ↑(BitVec.ofInt 64 a&&&BitVec.ofInt 64 b).toNat*2))).toNat)]) [.int .u64 (IntKind.wrap .u64 ↑(BitVec.ofInt 64 x1&&&BitVec.ofInt 64 (IntKind.wrap .u64 (d-1))).toNat)]
theorem f445 {x0:Addr} {x1:Int} (h:s445 x0 x1 K cs):fn 445 [.pointer (some x0),.int .u64 x1] K cs:=fO (an:=⟨[(2,[(1,.int .u64)])],[]⟩) Tryz.func445 h
@[reducible] def s462 (x0:Addr) (x1:Int) (x2:Int) (K:Value→SP):SP:=
 fn 471 [.pointer (some x0),.int .u64 x1,.int .u8 x2]<|uI .u64 λa=>fn 430 [.pointer (some x0)]<|uI .u64 λb=>K (.int .u64 (IntKind.wrap .u64 ↑(BitVec.ofInt 64 a|||BitVec.ofInt 64 b).toNat))
theorem f462 {x0:Addr} {x1 x2:Int} (h:s462 x0 x1 x2 K cs):fn 462 [.pointer (some x0),.int .u64 x1,.int .u8 x2] K cs:=fO (an:=⟨[],[]⟩) Tryz.func462 h
@[reducible] def s463 (x0:Addr) (x1:Int) (K:Value→SP):SP:=
 ldI .i64 3 (x0.add 0) λa=>fn 445 [.pointer (some x0),.int .u64 x1]<|uI .u64 λb=>sB 3 (x0.add 0) (.int .i64 a)<|qy (bsem BinOp.shr 396 (Operand.tmp 10) (Operand.tmp 15) (.int .u64 b) (.int .u64 (IntKind.wrap .u64 a)))<|uI .u64 λc=>K (.bool (IntKind.wrap .u64 ↑(BitVec.ofInt 64 c&&&BitVec.ofInt 64 1).toNat == 1))
theorem f463 {x0:Addr} {x1:Int} (h:s463 x0 x1 K cs):fn 463 [.pointer (some x0),.int .u64 x1] K cs:=fO (an:=⟨[],[]⟩) Tryz.func463 h
@[reducible] def s471 (x0:Addr) (x1:Int) (x2:Int) (K:Value→SP):SP:=
 fn 445 [.pointer (some x0),.int .u64 x1]<|uI .u64 λa=>ldI .u64 396 (x0.add 1) λb=>qy (Instr.indexAt 532 (.pointer (some (x0.add 2))) (.int .u8 x2))<|uQ λc=>ldI .u64 396 (c) λd=>fn 445 [.pointer (some x0),.int .u64 (IntKind.wrap .u64 ↑(BitVec.ofInt 64 (IntKind.wrap .u64 ↑(BitVec.ofInt 64 a&&&BitVec.ofInt 64 b).toNat)|||BitVec.ofInt 64 (IntKind.wrap .u64 (IntKind.wrap .u64 ↑(BitVec.ofInt 64 a&&&BitVec.ofInt 64 d).toNat*2))).toNat)]<|uI .u64 λe=>K (.int .u64 e)
theorem f471 {x0:Addr} {x1 x2:Int} (h:s471 x0 x1 x2 K cs):fn 471 [.pointer (some x0),.int .u64 x1,.int .u8 x2] K cs:=fO (an:=⟨[],[]⟩) Tryz.func471 h
@[reducible] def s428 (x0:ByteArray) (K:Value→SP):SP:=
 Lp (λj d=>unL (d.headD undef) λe b f=>unI .i64 (d.tail.headD undef) λa=>br (decide (a<(x0.size:Int))) (br ((b:Int) == 60) (K (.tuple (Array.mk [.slice none 0 0,.int .i64 a,.int .i64 4])))<|qy (Instr.sliceAt 9 (.string x0) (some (.int .i64 a)) none none)<|uS λk=>fn 441 [.string k]<|uT λc=>gA c 0 λl=>gI .i64 c 1 λg=>gI .i64 c 2 λh=>new 416 λi=>st 416 (i) (.agg (.mk l))<|br (h != 0) (K (.tuple (Array.mk [.slice none 0 0,.int .i64 (w64 (a+g)),.int .i64 h])))<|ldA 416 (i) λm=>sm (Instr.buildSlice 246 1 (Array.mk [(0,.agg (.mk m))]))<|uL λn o p=>sm (Builtin.append_ (Array.mk [246,246]) 246 (Array.mk [.slice e b f,.slice n o p]))<|uL λq r s=>j [.slice q r s,.int .i64 (w64 (a+g))])<|K (.tuple (Array.mk [.slice e b f,.int .i64 0,.int .i64 0]))) [.slice none 0 0,.int .i64 0]
theorem f428 {x0:ByteArray} (h:s428 x0 K cs):fn 428 [.string x0] K cs:=fO (an:=⟨[(3,[(5,.sl),(6,.int .i64)])],[]⟩) Tryz.func428 h
@[reducible] def s441 (x0:ByteArray) (K:Value→SP):SP:=
 new 416 λa=>qy (Instr.index 9 (.string x0) (.int .i64 0))<|uI .u8 λb=>br (b == 42) (st 416 (a) (.agg (.mk [.bool true,.int .u64 0,.int .u64 0,.int .u64 0,.int .u64 0]))<|qy (loadVar 416 a)<|uA λe=>K (.tuple (Array.mk [.agg (.mk e),.int .i64 1,.int .i64 0])))<|br (b == 63) (fn 455 [.int .u8 0,.int .u8 255]<|uA λf=>qy (Instr.build 416 (Array.mk [(1,.agg (.mk f))]))<|uA λg=>st 416 (a) (.agg (.mk g))<|qy (loadVar 416 a)<|uA λh=>K (.tuple (Array.mk [.agg (.mk h),.int .i64 1,.int .i64 0])))<|br (b == 91) (fn 456 [.string x0]<|uT λc=>gA c 0 λi=>gI .i64 c 1 λj=>gI .i64 c 2 λk=>new 412 λd=>st 412 (d) (.agg (.mk i))<|ldA 412 (d) λl=>qy (Instr.build 416 (Array.mk [(1,.agg (.mk l))]))<|uA λm=>st 416 (a) (.agg (.mk m))<|qy (loadVar 416 a)<|uA λn=>K (.tuple (Array.mk [.agg (.mk n),.int .i64 j,.int .i64 k])))<|br (b == 93) (st 416 (a) (.agg (.mk [.bool false,.int .u64 0,.int .u64 0,.int .u64 0,.int .u64 0]))<|qy (loadVar 416 a)<|uA λo=>K (.tuple (Array.mk [.agg (.mk o),.int .i64 0,.int .i64 2])))<|br (b == 37) (br ((x0.size:Int) == 1) (st 416 (a) (.agg (.mk [.bool false,.int .u64 0,.int .u64 0,.int .u64 0,.int .u64 0]))<|qy (loadVar 416 a)<|uA λp=>K (.tuple (Array.mk [.agg (.mk p),.int .i64 1,.int .i64 3])))<|qy (Instr.index 9 (.string x0) (.int .i64 1))<|uI .u8 λq=>fn 457 [.int .u8 q]<|uA λr=>qy (Instr.build 416 (Array.mk [(1,.agg (.mk r))]))<|uA λs=>st 416 (a) (.agg (.mk s))<|qy (loadVar 416 a)<|uA λt=>K (.tuple (Array.mk [.agg (.mk t),.int .i64 2,.int .i64 0])))<|qy (Instr.index 9 (.string x0) (.int .i64 0))<|uI .u8 λu=>fn 457 [.int .u8 u]<|uA λv=>qy (Instr.build 416 (Array.mk [(1,.agg (.mk v))]))<|uA λw=>st 416 (a) (.agg (.mk w))<|qy (loadVar 416 a)<|uA λx=>K (.tuple (Array.mk [.agg (.mk x),.int .i64 1,.int .i64 0]))
theorem f441 {x0:ByteArray} (h:s441 x0 K cs):fn 441 [.string x0] K cs:=fO (an:=⟨[],[]⟩) Tryz.func441 h
@[reducible] def s442 (x0:Option Addr) (y0:Nat) (z0:Nat) (K:Value→SP):SP:=
 fn 458 [.slice x0 y0 z0]<|uB λa=>K (.bool a)
theorem f442 {x0:Option Addr} {y0 z0:Nat} (h:s442 x0 y0 z0 K cs):fn 442 [.slice x0 y0 z0] K cs:=fO (an:=⟨[],[]⟩) Tryz.func442 h
@[reducible] def s457 (x0:Int) (K:Value→SP):SP:=
 new 412 λa=>fn 455 [.int .u8 x0,.int .u8 x0]<|uA λb=>st 412 (a) (.agg (.mk b))<|qy (loadVar 412 a)<|uA λc=>K (.agg (.mk c))
theorem f457 {x0:Int} (h:s457 x0 K cs):fn 457 [.int .u8 x0] K cs:=fO (an:=⟨[],[]⟩) Tryz.func457 h
@[reducible] def s458 (x0:Option Addr) (y0:Nat) (z0:Nat) (K:Value→SP):SP:=
 br (decide ((y0:Int)≤60)) (fn 459 [.slice x0 y0 z0,.func (Fn.func 469) (Array.mk []) (Array.mk [])]<|uB λa=>K (.bool !a))<|K (.bool false)
theorem f458 {x0:Option Addr} {y0 z0:Nat} (h:s458 x0 y0 z0 K cs):fn 458 [.slice x0 y0 z0] K cs:=fO (an:=⟨[],[]⟩) Tryz.func458 h
@[reducible] def s469 (x0:List Value) (K:Value→SP):SP:=
 box 416 (.agg (.mk x0)) λa=>ldB 4 (a.add 0) λb=>br (b) (ldA 412 (a.add 1) λc=>qy (Instr.build 412 (Array.mk []))<|uA λd=>qy (bsem BinOp.neq 412 (Operand.tmp 7) (Operand.tmp 8) (.agg (.mk c)) (.agg (.mk d)))<|uB λe=>K (.bool e))<|K (.bool false)
theorem f469 {x0:List Value} (h:s469 x0 K cs):fn 469 [.agg (.mk x0)] K cs:=fO (an:=⟨[],[]⟩) Tryz.func469 h
@[reducible] def s444 (x0:List Value) (x1:Int) (K:Value→SP):SP:=
 box 412 (.agg (.mk x0)) λa=>ldA 412 (a) λb=>fn 461 [.agg (.mk b),.int .u8 x1]<|uB λc=>K (.bool c)
theorem f444 {x0:List Value} {x1:Int} (h:s444 x0 x1 K cs):fn 444 [.agg (.mk x0),.int .u8 x1] K cs:=fO (an:=⟨[],[]⟩) Tryz.func444 h
@[reducible] def s455 (x0:Int) (x1:Int) (K:Value→SP):SP:=
 new 412 λa=>fn 467 [.int .u8 x0,.int .u8 x1]<|uA λb=>st 412 (a) (.agg (.mk b))<|qy (loadVar 412 a)<|uA λc=>K (.agg (.mk c))
theorem f455 {x0 x1:Int} (h:s455 x0 x1 K cs):fn 455 [.int .u8 x0,.int .u8 x1] K cs:=fO (an:=⟨[],[]⟩) Tryz.func455 h
@[reducible] def s456 (x0:ByteArray) (K:Value→SP):SP:=
 new 412 λb=>box 560 (.agg (.mk [.string x0,.int .i64 0,.int .i64 0])) λa=>fn 468 [.pointer (some a)]<|uA λg=>new 412 λc=>st 412 (c) (.agg (.mk g))<|ldI .i64 57 (a.add 2) λh=>br (h == 0) (ldA 412 (c) λi=>ldI .i64 3 (a.add 1) λd=>st 412 (b) (.agg (.mk i))<|sB 3 (a.add 1) (.int .i64 d)<|qy (loadVar 412 b)<|uA λj=>K (.tuple (Array.mk [.agg (.mk j),.int .i64 d,.int .i64 0])))<|qy (Instr.build 412 (Array.mk []))<|uA λk=>ldI .i64 3 (a.add 1) λe=>ldI .i64 57 (a.add 2) λf=>st 412 (b) (.agg (.mk k))<|sB 57 (a.add 2) (.int .i64 f)<|sB 3 (a.add 1) (.int .i64 e)<|qy (loadVar 412 b)<|uA λl=>K (.tuple (Array.mk [.agg (.mk l),.int .i64 e,.int .i64 f]))
theorem f456 {x0:ByteArray} (h:s456 x0 K cs):fn 456 [.string x0] K cs:=fO (an:=⟨[],[]⟩) Tryz.func456 h
@[reducible] def s461 (x0:List Value) (x1:Int) (K:Value→SP):SP:=
 box 412 (.agg (.mk x0)) λa=>qy (Instr.indexAt 412 (.pointer (some a)) (.int .u8 (IntKind.wrap .u8 (x1.tdiv 64))))<|uQ λb=>ldI .u64 396 (b) λc=>qy (bsem BinOp.shr 396 (Operand.tmp 8) (Operand.tmp 10) (.int .u64 c) (.int .u8 (x1.tmod 64)))<|uI .u64 λd=>K (.bool (IntKind.wrap .u64 ↑(BitVec.ofInt 64 d&&&BitVec.ofInt 64 1).toNat == 1))
theorem f461 {x0:List Value} {x1:Int} (h:s461 x0 x1 K cs):fn 461 [.agg (.mk x0),.int .u8 x1] K cs:=fO (an:=⟨[],[]⟩) Tryz.func461 h
@[reducible] def s467 (x0:Int) (x1:Int) (K:Value→SP):SP:=
 new 412 λc=>new 412 λa=>Lp (λd e=>unI .i64 (e.headD undef) λb=>br (decide (b≤w64 x1)) (ldA 412 (a) λf=>fn 477 [.agg (.mk f),.int .u8 (IntKind.wrap .u8 b)]<|uA λg=>st 412 (a) (.agg (.mk g))<|d [.int .i64 (w64 (b+1))])<|ldA 412 (a) λh=>st 412 (c) (.agg (.mk h))<|qy (loadVar 412 c)<|uA λi=>K (.agg (.mk i))) [.int .i64 (w64 x0)]
theorem f467 {x0 x1:Int} (h:s467 x0 x1 K cs):fn 467 [.int .u8 x0,.int .u8 x1] K cs:=fO (an:=⟨[(3,[(6,.int .i64)])],[]⟩) Tryz.func467 h
@[reducible] def s468 (x0:Addr) (K:Value→SP):SP:=
 new 412 λa=>fn 478 [.pointer (some x0),.int .u8 91]<|uB λg=>br (!g) (fn 479 [.pointer (some x0)]<|uT λ_=>qy (Instr.build 412 (Array.mk []))<|uA λh=>st 412 (a) (.agg (.mk h))<|qy (loadVar 412 a)<|uA λi=>K (.agg (.mk i)))<|ldI .i64 3 (x0.add 1) λj=>st 3 (x0.add 1) (.int .i64 (w64 (j+1)))<|fn 478 [.pointer (some x0),.int .u8 94]<|uB λc=>Jn (λ_=>fn 480 [.pointer (some x0)]<|uA λk=>new 412 λb=>st 412 (b) (.agg (.mk k))<|Jn (λ_=>ldI .i64 57 (x0.add 2) λl=>br (l != 0) (qy (Instr.build 412 (Array.mk []))<|uA λm=>st 412 (a) (.agg (.mk m))<|qy (loadVar 412 a)<|uA λn=>K (.agg (.mk n)))<|ldI .i64 3 (x0.add 1) λo=>st 3 (x0.add 1) (.int .i64 (w64 (o+1)))<|br (c) (ldA 412 (b) λp=>fn 482 [.agg (.mk p)]<|uA λq=>st 412 (a) (.agg (.mk q))<|qy (loadVar 412 a)<|uA λr=>K (.agg (.mk r)))<|ldA 412 (b) λs=>st 412 (a) (.agg (.mk s))<|qy (loadVar 412 a)<|uA λt=>K (.agg (.mk t)))<|λd=>Lp (λu _=>Jn (λ_=>ldA 412 (b) λe=>fn 480 [.pointer (some x0)]<|uA λv=>sB 412 b (.agg (.mk e))<|fn 481 [.agg (.mk e),.agg (.mk v)]<|uA λw=>st 412 (b) (.agg (.mk w))<|u [])<|λx=>ldI .i64 57 (x0.add 2) λy=>br (y == 0) (fn 478 [.pointer (some x0),.int .u8 93]<|uB λz=>br (!z) (x [])<|d [])<|d []) [])<|λf=>br (c) (ldI .i64 3 (x0.add 1) λA=>st 3 (x0.add 1) (.int .i64 (w64 (A+1)))<|f [])<|f []
theorem f468 {x0:Addr} (h:s468 x0 K cs):fn 468 [.pointer (some x0)] K cs:=fO (an:=⟨[(9,[])],[(8,[]),(11,[]),(10,[])]⟩) Tryz.func468 h
@[reducible] def s477 (x0:List Value) (x1:Int) (K:Value→SP):SP:=
 box 412 (.agg (.mk x0)) λa=>new 412 λb=>qy (Instr.indexAt 412 (.pointer (some a)) (.int .u8 (IntKind.wrap .u8 (x1.tdiv 64))))<|uQ λc=>ldI .u64 396 (c) λd=>qy (bsem BinOp.shl 396 (Operand.const (.int .u64 1)) (Operand.tmp 10) (.int .u64 1) (.int .u8 (x1.tmod 64)))<|uI .u64 λe=>qy (Instr.indexAt 412 (.pointer (some a)) (.int .u8 (IntKind.wrap .u8 (x1.tdiv 64))))<|uQ λf=>st 396 (f) (.int .u64 (IntKind.wrap .u64 ↑(BitVec.ofInt 64 d|||BitVec.ofInt 64 e).toNat))<|ldA 412 (a) λg=>st 412 (b) (.agg (.mk g))<|qy (loadVar 412 b)<|uA λh=>K (.agg (.mk h))
theorem f477 {x0:List Value} {x1:Int} (h:s477 x0 x1 K cs):fn 477 [.agg (.mk x0),.int .u8 x1] K cs:=fO (an:=⟨[],[]⟩) Tryz.func477 h
@[reducible] def s478 (x0:Addr) (x1:Int) (K:Value→SP):SP:=
 ldI .i64 3 (x0.add 1) λa=>ldS 9 (x0.add 0) λb=>br (decide (a<(b.size:Int))) (ldS 9 (x0.add 0) λc=>ldI .i64 3 (x0.add 1) λd=>qy (Instr.index 9 (.string c) (.int .i64 d))<|uI .u8 λe=>K (.bool (e == x1)))<|K (.bool false)
theorem f478 {x0:Addr} {x1:Int} (h:s478 x0 x1 K cs):fn 478 [.pointer (some x0),.int .u8 x1] K cs:=fO (an:=⟨[],[]⟩) Tryz.func478 h
@[reducible] def s479 (x0:Addr) (K:Value→SP):SP:=
 st 57 (x0.add 2) (.int .i64 2)<|ldI .i64 3 (x0.add 1) λa=>ldS 9 (x0.add 0) λb=>br (decide (a≥(b.size:Int))) (ldS 9 (x0.add 0) λc=>st 3 (x0.add 1) (.int .i64 (c.size:Int))<|st 57 (x0.add 2) (.int .i64 3)<|K (undef))<|K (undef)
theorem f479 {x0:Addr} (h:s479 x0 K cs):fn 479 [.pointer (some x0)] K cs:=fO (an:=⟨[],[]⟩) Tryz.func479 h
@[reducible] def s480 (x0:Addr) (K:Value→SP):SP:=
 new 412 λa=>fn 488 [.pointer (some x0)]<|uI .u8 λb=>Jn (λ_=>ldI .i64 3 (x0.add 1) λd=>st 3 (x0.add 1) (.int .i64 (w64 (d+1)))<|fn 488 [.pointer (some x0)]<|uI .u8 λc=>ldI .i64 57 (x0.add 2) λe=>br (e == 0) (br (decide (c<b)) (ldI .i64 3 (x0.add 1) λf=>st 3 (x0.add 1) (.int .i64 (w64 (f-1)))<|st 57 (x0.add 2) (.int .i64 12)<|fn 467 [.int .u8 b,.int .u8 c]<|uA λg=>st 412 (a) (.agg (.mk g))<|qy (loadVar 412 a)<|uA λh=>K (.agg (.mk h)))<|fn 467 [.int .u8 b,.int .u8 c]<|uA λi=>st 412 (a) (.agg (.mk i))<|qy (loadVar 412 a)<|uA λj=>K (.agg (.mk j)))<|fn 467 [.int .u8 b,.int .u8 c]<|uA λk=>st 412 (a) (.agg (.mk k))<|qy (loadVar 412 a)<|uA λl=>K (.agg (.mk l)))<|λm=>ldI .i64 57 (x0.add 2) λn=>br (n != 0) (fn 467 [.int .u8 b,.int .u8 b]<|uA λo=>st 412 (a) (.agg (.mk o))<|qy (loadVar 412 a)<|uA λp=>K (.agg (.mk p)))<|fn 478 [.pointer (some x0),.int .u8 45]<|uB λq=>br (!q) (fn 467 [.int .u8 b,.int .u8 b]<|uA λr=>st 412 (a) (.agg (.mk r))<|qy (loadVar 412 a)<|uA λs=>K (.agg (.mk s)))<|m []
theorem f480 {x0:Addr} (h:s480 x0 K cs):fn 480 [.pointer (some x0)] K cs:=fO (an:=⟨[],[(4,[])]⟩) Tryz.func480 h
@[reducible] def s481 (x0:List Value) (x1:List Value) (K:Value→SP):SP:=
 box 412 (.agg (.mk x0)) λb=>box 412 (.agg (.mk x1)) λd=>new 412 λc=>Lp (λe f=>unI .i64 (f.headD undef) λa=>br (decide (a<4)) (ix 412 (.pointer (some b)) (a) λg=>ldI .u64 396 (g) λh=>ix 412 (.pointer (some d)) (a) λi=>ldI .u64 396 (i) λj=>ix 412 (.pointer (some b)) (a) λk=>st 396 (k) (.int .u64 (IntKind.wrap .u64 ↑(BitVec.ofInt 64 h|||BitVec.ofInt 64 j).toNat))<|e [.int .i64 (w64 (a+1))])<|ldA 412 (b) λl=>st 412 (c) (.agg (.mk l))<|qy (loadVar 412 c)<|uA λm=>K (.agg (.mk m))) [.int .i64 0]
theorem f481 {x0 x1:List Value} (h:s481 x0 x1 K cs):fn 481 [.agg (.mk x0),.agg (.mk x1)] K cs:=fO (an:=⟨[(2,[(6,.int .i64)])],[]⟩) Tryz.func481 h
@[reducible] def s482 (x0:List Value) (K:Value→SP):SP:=
 box 412 (.agg (.mk x0)) λb=>new 412 λc=>Lp (λd e=>unI .i64 (e.headD undef) λa=>br (decide (a<4)) (ix 412 (.pointer (some b)) (a) λf=>ldI .u64 396 (f) λg=>ix 412 (.pointer (some b)) (a) λh=>st 396 (h) (.int .u64 (IntKind.wrap .u64 ↑(BitVec.ofInt 64 18446744073709551615 ^^^ BitVec.ofInt 64 g).toNat))<|d [.int .i64 (w64 (a+1))])<|ldA 412 (b) λi=>st 412 (c) (.agg (.mk i))<|qy (loadVar 412 c)<|uA λj=>K (.agg (.mk j))) [.int .i64 0]
theorem f482 {x0:List Value} (h:s482 x0 K cs):fn 482 [.agg (.mk x0)] K cs:=fO (an:=⟨[(2,[(4,.int .i64)])],[]⟩) Tryz.func482 h
@[reducible] def s488 (x0:Addr) (K:Value→SP):SP:=
 Jn (λ_=>ldI .i64 3 (x0.add 1) λb=>st 3 (x0.add 1) (.int .i64 (w64 (b+1)))<|ldS 9 (x0.add 0) λc=>ldI .i64 3 (x0.add 1) λd=>qy (Instr.index 9 (.string c) (.int .i64 (w64 (d-1))))<|uI .u8 λe=>K (.int .u8 e))<|λa=>fn 478 [.pointer (some x0),.int .u8 37]<|uB λf=>br (f) (ldI .i64 3 (x0.add 1) λg=>st 3 (x0.add 1) (.int .i64 (w64 (g+1)))<|ldI .i64 3 (x0.add 1) λh=>ldS 9 (x0.add 0) λi=>br (decide (h≥(i.size:Int))) (fn 479 [.pointer (some x0)]<|uT λ_=>K (.int .u8 0))<|a [])<|ldI .i64 3 (x0.add 1) λj=>ldS 9 (x0.add 0) λk=>br (decide (j≥(k.size:Int))) (fn 479 [.pointer (some x0)]<|uT λ_=>K (.int .u8 0))<|fn 478 [.pointer (some x0),.int .u8 93]<|uB λl=>br (l) (fn 479 [.pointer (some x0)]<|uT λ_=>K (.int .u8 0))<|fn 478 [.pointer (some x0),.int .u8 45]<|uB λm=>br (m) (fn 479 [.pointer (some x0)]<|uT λ_=>K (.int .u8 0))<|a []
theorem f488 {x0:Addr} (h:s488 x0 K cs):fn 488 [.pointer (some x0)] K cs:=fO (an:=⟨[],[(9,[])]⟩) Tryz.func488 h
@[reducible] def s443 (x0:Option Addr) (y0:Nat) (z0:Nat) (K:Value→SP):SP:=
 fn 459 [.slice x0 y0 z0,.func (Fn.func 460) (Array.mk []) (Array.mk [])]<|uB λa=>K (.bool !a)
theorem f443 {x0:Option Addr} {y0 z0:Nat} (h:s443 x0 y0 z0 K cs):fn 443 [.slice x0 y0 z0] K cs:=fO (an:=⟨[],[]⟩) Tryz.func443 h
@[reducible] def s460 (x0:List Value) (K:Value→SP):SP:=
 box 416 (.agg (.mk x0)) λa=>ldB 4 (a.add 0) λb=>K (.bool !b)
theorem f460 {x0:List Value} (h:s460 x0 K cs):fn 460 [.agg (.mk x0)] K cs:=fO (an:=⟨[],[]⟩) Tryz.func460 h
@[reducible] def s217 (x0:ByteArray) (K:Value→SP):SP:=
 fn 312 [.string x0,.string (bs [10])]<|uL λa b c=>K (.slice a b c)
theorem f217 {x0:ByteArray} (h:s217 x0 K cs):fn 217 [.string x0] K cs:=fO (an:=⟨[],[]⟩) Tryz.func217 h
@[reducible] def s289 (x0:ByteArray) (K:Value→SP):SP:=
 Jn (λ_=>Lp (λb c=>unI .i64 (c.headD undef) λa=>br (decide (a<(x0.size:Int))) (qy (Instr.index 9 (.string x0) (.int .i64 a))<|uI .u8 λd=>br (decide (d<97)) (qy (Instr.index 9 (.string x0) (.int .i64 a))<|uI .u8 λe=>br (decide (e<48)) (K (.bool false))<|qy (Instr.index 9 (.string x0) (.int .i64 a))<|uI .u8 λf=>br (decide (f>57)) (K (.bool false))<|b [.int .i64 (w64 (a+1))])<|qy (Instr.index 9 (.string x0) (.int .i64 a))<|uI .u8 λg=>br (decide (g>122)) (qy (Instr.index 9 (.string x0) (.int .i64 a))<|uI .u8 λh=>br (decide (h<48)) (K (.bool false))<|qy (Instr.index 9 (.string x0) (.int .i64 a))<|uI .u8 λi=>br (decide (i>57)) (K (.bool false))<|b [.int .i64 (w64 (a+1))])<|b [.int .i64 (w64 (a+1))])<|K (.bool true)) [.int .i64 0])<|λj=>br (x0.toList == (bs []).toList) (K (.bool false))<|br (decide ((x0.size:Int)>16)) (K (.bool false))<|qy (Instr.index 9 (.string x0) (.int .i64 0))<|uI .u8 λk=>br (decide (k<97)) (K (.bool false))<|j []
theorem f289 {x0:ByteArray} (h:s289 x0 K cs):fn 289 [.string x0] K cs:=fO (an:=⟨[(4,[(18,.int .i64)])],[(3,[])]⟩) Tryz.func289 h
@[reducible] def s314 (x0:ByteArray) (K:Value→SP):SP:=
 br (x0.toList == (bs []).toList) (K (.bool true))<|qy (Instr.index 9 (.string x0) (.int .i64 0))<|uI .u8 λa=>K (.bool (a == 35))
theorem f314 {x0:ByteArray} (h:s314 x0 K cs):fn 314 [.string x0] K cs:=fO (an:=⟨[],[]⟩) Tryz.func314 h
@[reducible] def s315 (x0:ByteArray) (K:Value→SP):SP:=
 br (decide ((x0.size:Int)>1200)) (K (.tuple (Array.mk [.slice none 0 0,.int .i64 1200,.int .i64 4])))<|br (x0.toList == (bs []).toList) (K (.tuple (Array.mk [.slice none 0 0,.int .i64 0,.int .i64 0])))<|Lp (λq k=>unL (k.headD undef) λr s t=>unI .i64 (k.tail.headD undef) λa=>new 472 λb=>st 472 (b) (.agg (.mk [.string (bs []),.bool false,.int .i64 a]))<|Jn (λu=>unI .i64 (u.headD undef) λc=>ldA 472 (b) λv=>sm (Instr.buildSlice 426 1 (Array.mk [(0,.agg (.mk v))]))<|uL λw x y=>sm (Builtin.append_ (Array.mk [426,426]) 426 (Array.mk [.slice r s t,.slice w x y]))<|uL λl m n=>br (c == (x0.size:Int)) (K (.tuple (Array.mk [.slice l m n,.int .i64 0,.int .i64 0])))<|qy (Instr.index 9 (.string x0) (.int .i64 c))<|uI .u8 λz=>br (z != 32) (fn 381 [.string x0,.int .i64 c]<|uT λd=>gL d 0 λA B C=>gI .i64 d 1 λD=>gI .i64 d 2 λE=>K (.tuple (Array.mk [.slice A B C,.int .i64 D,.int .i64 E])))<|q [.slice l m n,.int .i64 (w64 (c+1))])<|λe=>br (decide (a<(x0.size:Int))) (qy (Instr.index 9 (.string x0) (.int .i64 a))<|uI .u8 λF=>br (F == 34) (qy (Instr.sliceAt 9 (.string x0) (some (.int .i64 a)) none none)<|uS λG=>fn 379 [.string G]<|uT λf=>gS f 0 λH=>gI .i64 f 1 λo=>gI .i64 f 2 λp=>br (p != 0) (K (.tuple (Array.mk [.slice none 0 0,.int .i64 (w64 (a+o)),.int .i64 p])))<|st 9 (b.add 0) (.string H)<|st 4 (b.add 1) (.bool true)<|e [.int .i64 (w64 (a+o))])<|qy (Instr.sliceAt 9 (.string x0) (some (.int .i64 a)) none none)<|uS λI=>fn 380 [.string I]<|uI .i64 λg=>br (g == 0) (fn 381 [.string x0,.int .i64 a]<|uT λh=>gL h 0 λJ L M=>gI .i64 h 1 λN=>gI .i64 h 2 λO=>K (.tuple (Array.mk [.slice J L M,.int .i64 N,.int .i64 O])))<|qy (Instr.sliceAt 9 (.string x0) (some (.int .i64 a)) (some (.int .i64 (w64 (a+g)))) none)<|uS λP=>st 9 (b.add 0) (.string P)<|e [.int .i64 (w64 (a+g))])<|qy (Instr.sliceAt 9 (.string x0) (some (.int .i64 a)) none none)<|uS λQ=>fn 380 [.string Q]<|uI .i64 λi=>br (i == 0) (fn 381 [.string x0,.int .i64 a]<|uT λj=>gL j 0 λR S T=>gI .i64 j 1 λU=>gI .i64 j 2 λV=>K (.tuple (Array.mk [.slice R S T,.int .i64 U,.int .i64 V])))<|qy (Instr.sliceAt 9 (.string x0) (some (.int .i64 a)) (some (.int .i64 (w64 (a+i)))) none)<|uS λW=>st 9 (b.add 0) (.string W)<|e [.int .i64 (w64 (a+i))]) [.slice none 0 0,.int .i64 0]
theorem f315 {x0:ByteArray} (h:s315 x0 K cs):fn 315 [.string x0] K cs:=fO (an:=⟨[(8,[(5,.sl),(6,.int .i64)])],[(20,[(6,.int .i64)])]⟩) Tryz.func315 h
@[reducible] def s380 (x0:ByteArray) (K:Value→SP):SP:=
 Lp (λb c=>unI .i64 (c.headD undef) λa=>br (decide (a<(x0.size:Int))) (qy (Instr.index 9 (.string x0) (.int .i64 a))<|uI .u8 λd=>fn 405 [.int .u8 d]<|uB λe=>br (e) (b [.int .i64 (w64 (a+1))])<|K (.int .i64 a))<|K (.int .i64 a)) [.int .i64 0]
theorem f380 {x0:ByteArray} (h:s380 x0 K cs):fn 380 [.string x0] K cs:=fO (an:=⟨[(2,[(3,.int .i64)])],[]⟩) Tryz.func380 h
@[reducible] def s381 (x0:ByteArray) (x1:Int) (K:Value→SP):SP:=
 br (decide (x1≥(x0.size:Int))) (K (.tuple (Array.mk [.slice none 0 0,.int .i64 (x0.size:Int),.int .i64 3])))<|K (.tuple (Array.mk [.slice none 0 0,.int .i64 x1,.int .i64 2]))
theorem f381 {x0:ByteArray} {x1:Int} (h:s381 x0 x1 K cs):fn 381 [.string x0,.int .i64 x1] K cs:=fO (an:=⟨[],[]⟩) Tryz.func381 h
@[reducible] def s405 (x0:Int) (K:Value→SP):SP:=
 br (decide (x0≥33)) (br (decide (x0≤126)) (br (x0 != 34) (K (.bool (x0 != 92)))<|K (.bool false))<|K (.bool false))<|K (.bool false)
theorem f405 {x0:Int} (h:s405 x0 K cs):fn 405 [.int .u8 x0] K cs:=fO (an:=⟨[],[]⟩) Tryz.func405 h
@[reducible] def s427 (x0:ByteArray) (x1:Int) (K:Value→SP):SP:=
 fn 440 [.string x0]<|uT λc=>gI .i64 c 0 λa=>gI .i64 c 1 λb=>br (b == 0) (br (x1 != 9223372036854775807) (br (decide (a>x1)) (K (.tuple (Array.mk [.int .i64 0,.int .i64 12])))<|K (.tuple (Array.mk [.int .i64 a,.int .i64 b])))<|K (.tuple (Array.mk [.int .i64 a,.int .i64 b])))<|K (.tuple (Array.mk [.int .i64 a,.int .i64 b]))
theorem f427 {x0:ByteArray} {x1:Int} (h:s427 x0 x1 K cs):fn 427 [.string x0,.int .i64 x1] K cs:=fO (an:=⟨[],[]⟩) Tryz.func427 h
@[reducible] def s379 (x0:ByteArray) (K:Value→SP):SP:=
 fn 404 [.string x0]<|uT λa=>gS a 0 λb=>gI .i64 a 1 λc=>gI .i64 a 2 λd=>K (.tuple (Array.mk [.string b,.int .i64 c,.int .i64 d]))
theorem f379 {x0:ByteArray} (h:s379 x0 K cs):fn 379 [.string x0] K cs:=fO (an:=⟨[],[]⟩) Tryz.func379 h
@[reducible] def s404 (x0:ByteArray) (K:Value→SP):SP:=
 Jn (λ_=>Lp (λq k=>unL (k.headD undef) λl m n=>unI .i64 (k.tail.headD undef) λa=>br (decide (a<(x0.size:Int))) (qy (Instr.index 9 (.string x0) (.int .i64 a))<|uI .u8 λb=>Jn (λc=>unI .u8 (c.headD undef) λr=>unI .i64 (c.tail.headD undef) λo=>unB (c.tail.tail.headD undef) λs=>br (!s) (fn 425 [.string x0,.int .i64 o]<|uT λd=>gS d 0 λt=>gI .i64 d 1 λu=>gI .i64 d 2 λv=>K (.tuple (Array.mk [.string t,.int .i64 u,.int .i64 v])))<|sm (Instr.buildSlice 110 1 (Array.mk [(0,.int .u8 r)]))<|uL λw x y=>sm (Builtin.append_ (Array.mk [110,110]) 110 (Array.mk [.slice l m n,.slice w x y]))<|uL λz A B=>q [.slice z A B,.int .i64 o])<|λp=>br (b == 34) (qy (convert 110 9 (.slice l m n))<|uS λC=>K (.tuple (Array.mk [.string C,.int .i64 (w64 (a+1)),.int .i64 0])))<|br (b == 92) (fn 426 [.string x0,.int .i64 (w64 (a+1))]<|uT λe=>gI .u8 e 0 λD=>gI .i64 e 1 λE=>gB e 2 λF=>p [.int .u8 D,.int .i64 E,.bool F])<|br (decide (b<32)) (fn 425 [.string x0,.int .i64 a]<|uT λf=>gS f 0 λG=>gI .i64 f 1 λH=>gI .i64 f 2 λI=>K (.tuple (Array.mk [.string G,.int .i64 H,.int .i64 I])))<|br (decide (b>126)) (fn 425 [.string x0,.int .i64 a]<|uT λg=>gS g 0 λJ=>gI .i64 g 1 λL=>gI .i64 g 2 λM=>K (.tuple (Array.mk [.string J,.int .i64 L,.int .i64 M])))<|p [.int .u8 b,.int .i64 (w64 (a+1)),.bool true])<|fn 425 [.string x0,.int .i64 (x0.size:Int)]<|uT λh=>gS h 0 λN=>gI .i64 h 1 λO=>gI .i64 h 2 λP=>K (.tuple (Array.mk [.string N,.int .i64 O,.int .i64 P]))) [.slice none 0 0,.int .i64 1])<|λQ=>br (x0.toList == (bs []).toList) (fn 425 [.string x0,.int .i64 0]<|uT λi=>gS i 0 λR=>gI .i64 i 1 λS=>gI .i64 i 2 λT=>K (.tuple (Array.mk [.string R,.int .i64 S,.int .i64 T])))<|qy (Instr.index 9 (.string x0) (.int .i64 0))<|uI .u8 λU=>br (U != 34) (fn 425 [.string x0,.int .i64 0]<|uT λj=>gS j 0 λV=>gI .i64 j 1 λW=>gI .i64 j 2 λX=>K (.tuple (Array.mk [.string V,.int .i64 W,.int .i64 X])))<|Q []
theorem f404 {x0:ByteArray} (h:s404 x0 K cs):fn 404 [.string x0] K cs:=fO (an:=⟨[(5,[(5,.sl),(6,.int .i64)])],[(4,[]),(13,[(7,.int .u8),(8,.int .i64),(9,.bool)])]⟩) Tryz.func404 h
@[reducible] def s425 (x0:ByteArray) (x1:Int) (K:Value→SP):SP:=
 br (decide (x1≥(x0.size:Int))) (K (.tuple (Array.mk [.string (bs []),.int .i64 (x0.size:Int),.int .i64 3])))<|K (.tuple (Array.mk [.string (bs []),.int .i64 x1,.int .i64 2]))
theorem f425 {x0:ByteArray} {x1:Int} (h:s425 x0 x1 K cs):fn 425 [.string x0,.int .i64 x1] K cs:=fO (an:=⟨[],[]⟩) Tryz.func425 h
@[reducible] def s426 (x0:ByteArray) (x1:Int) (K:Value→SP):SP:=
 br (decide (x1≥(x0.size:Int))) (K (.tuple (Array.mk [.int .u8 0,.int .i64 (x0.size:Int),.bool false])))<|qy (Instr.index 9 (.string x0) (.int .i64 x1))<|uI .u8 λa=>br (a == 34) (qy (Instr.index 9 (.string x0) (.int .i64 x1))<|uI .u8 λc=>K (.tuple (Array.mk [.int .u8 c,.int .i64 (w64 (x1+1)),.bool true])))<|br (a == 92) (qy (Instr.index 9 (.string x0) (.int .i64 x1))<|uI .u8 λd=>K (.tuple (Array.mk [.int .u8 d,.int .i64 (w64 (x1+1)),.bool true])))<|br (a == 110) (K (.tuple (Array.mk [.int .u8 10,.int .i64 (w64 (x1+1)),.bool true])))<|br (a == 114) (K (.tuple (Array.mk [.int .u8 13,.int .i64 (w64 (x1+1)),.bool true])))<|br (a == 116) (K (.tuple (Array.mk [.int .u8 9,.int .i64 (w64 (x1+1)),.bool true])))<|br (a == 120) (fn 439 [.string x0,.int .i64 (w64 (x1+1))]<|uT λb=>gI .u8 b 0 λe=>gI .i64 b 1 λf=>gB b 2 λg=>K (.tuple (Array.mk [.int .u8 e,.int .i64 f,.bool g])))<|K (.tuple (Array.mk [.int .u8 0,.int .i64 x1,.bool false]))
theorem f426 {x0:ByteArray} {x1:Int} (h:s426 x0 x1 K cs):fn 426 [.string x0,.int .i64 x1] K cs:=fO (an:=⟨[],[]⟩) Tryz.func426 h
@[reducible] def s439 (x0:ByteArray) (x1:Int) (K:Value→SP):SP:=
 Lp (λe b=>unI .u8 (b.headD undef) λc=>unI .i64 (b.tail.headD undef) λa=>br (decide (a<2)) (br (decide (w64 (x1+a)≥(x0.size:Int))) (K (.tuple (Array.mk [.int .u8 0,.int .i64 (x0.size:Int),.bool false])))<|qy (Instr.index 9 (.string x0) (.int .i64 (w64 (x1+a))))<|uI .u8 λf=>fn 452 [.int .u8 f]<|uT λd=>gI .u8 d 0 λg=>gB d 1 λh=>br (!h) (K (.tuple (Array.mk [.int .u8 0,.int .i64 (w64 (x1+a)),.bool false])))<|e [.int .u8 (IntKind.wrap .u8 ↑(BitVec.ofInt 8 (IntKind.wrap .u8 (c*16))|||BitVec.ofInt 8 g).toNat),.int .i64 (w64 (a+1))])<|K (.tuple (Array.mk [.int .u8 c,.int .i64 (w64 (x1+2)),.bool true]))) [.int .u8 0,.int .i64 0]
theorem f439 {x0:ByteArray} {x1:Int} (h:s439 x0 x1 K cs):fn 439 [.string x0,.int .i64 x1] K cs:=fO (an:=⟨[(3,[(7,.int .u8),(11,.int .i64)])],[]⟩) Tryz.func439 h
@[reducible] def s452 (x0:Int) (K:Value→SP):SP:=
 br (decide (x0≥48)) (br (decide (x0≤57)) (K (.tuple (Array.mk [.int .u8 (IntKind.wrap .u8 (x0-48)),.bool true])))<|br (decide (x0≥97)) (br (decide (x0≤102)) (K (.tuple (Array.mk [.int .u8 (IntKind.wrap .u8 (IntKind.wrap .u8 (x0-97)+10)),.bool true])))<|K (.tuple (Array.mk [.int .u8 0,.bool false])))<|K (.tuple (Array.mk [.int .u8 0,.bool false])))<|br (decide (x0≥97)) (br (decide (x0≤102)) (K (.tuple (Array.mk [.int .u8 (IntKind.wrap .u8 (IntKind.wrap .u8 (x0-97)+10)),.bool true])))<|K (.tuple (Array.mk [.int .u8 0,.bool false])))<|K (.tuple (Array.mk [.int .u8 0,.bool false]))
theorem f452 {x0:Int} (h:s452 x0 K cs):fn 452 [.int .u8 x0] K cs:=fO (an:=⟨[],[]⟩) Tryz.func452 h
@[reducible] def s82 (x0:List Value) (K:Value→SP):SP:=
 box 45 (.agg (.mk x0)) λa=>new 45 λc=>ldL 43 (a.add 3) λg h i=>fn 140 [.slice g h i]<|uL λj k l=>st 43 (a.add 3) (.slice j k l)<|ldL 43 (a.add 3) λ_ m _=>Lp (λn o=>unI .i64 (o.headD undef) λb=>br (decide (b<(m:Int))) (ldL 43 (a.add 3) λd e f=>ldL 43 (a.add 3) λp q r=>ix 43 (.slice p q r) (b) λs=>ldL 95 (s.add 4) λt u v=>fn 141 [.slice t u v]<|uL λw x y=>sB 43 (a.add 3) (.slice d e f)<|ix 43 (.slice d e f) (b) λz=>st 95 (z.add 4) (.slice w x y)<|n [.int .i64 (w64 (b+1))])<|ldA 45 (a) λA=>st 45 (c) (.agg (.mk A))<|qy (loadVar 45 c)<|uA λB=>K (.agg (.mk B))) [.int .i64 0]
theorem f82 {x0:List Value} (h:s82 x0 K cs):fn 82 [.agg (.mk x0)] K cs:=fO (an:=⟨[(3,[(11,.int .i64)])],[]⟩) Tryz.func82 h
@[reducible] def s118 (x0:List Value) (K:Value→SP):SP:=
 box 45 (.agg (.mk x0)) λb=>ldA 45 (b) λc=>fn 190 [.agg (.mk c)]<|uT λa=>gI .i64 a 0 λ_=>gI .i64 a 1 λd=>K (.bool (d == 0))
theorem f118 {x0:List Value} (h:s118 x0 K cs):fn 118 [.agg (.mk x0)] K cs:=fO (an:=⟨[],[]⟩) Tryz.func118 h
@[reducible] def s190 (x0:List Value) (K:Value→SP):SP:=
 box 45 (.agg (.mk x0)) λa=>Jn (λ_=>ldL 43 (a.add 3) λg c h=>Lp (λi j=>unI .i64 (j.headD undef) λb=>br (decide (b<(c:Int))) (ix 43 (.slice g c h) (b) λk=>ldA 97 (k) λl=>new 97 λd=>st 97 (d) (.agg (.mk l))<|ldA 45 (a) λm=>ldA 97 (d) λn=>fn 292 [.agg (.mk m),.agg (.mk n)]<|uI .i64 λe=>br (e != 0) (K (.tuple (Array.mk [.int .i64 b,.int .i64 e])))<|i [.int .i64 (w64 (b+1))])<|K (.tuple (Array.mk [.int .i64 0,.int .i64 0]))) [.int .i64 0])<|λf=>ldS 9 (a.add 0) λo=>fn 289 [.string o]<|uB λp=>br (!p) (K (.tuple (Array.mk [.int .i64 (-1),.int .i64 10])))<|ldI .i64 2 (a.add 1) λq=>br (q != 9223372036854775807) (ldI .i64 2 (a.add 1) λr=>fn 290 [.int .i64 r,.int .i64 1,.int .i64 1000000000000]<|uB λs=>br (!s) (K (.tuple (Array.mk [.int .i64 (-1),.int .i64 12])))<|ldI .i64 3 (a.add 2) λt=>fn 291 [.int .i64 t,.int .i64 0,.int .i64 1000]<|uB λu=>br (!u) (K (.tuple (Array.mk [.int .i64 (-1),.int .i64 12])))<|ldL 43 (a.add 3) λ_ v _=>br (decide ((v:Int)>200)) (K (.tuple (Array.mk [.int .i64 (-1),.int .i64 4])))<|f [])<|ldI .i64 3 (a.add 2) λw=>fn 291 [.int .i64 w,.int .i64 0,.int .i64 1000]<|uB λx=>br (!x) (K (.tuple (Array.mk [.int .i64 (-1),.int .i64 12])))<|ldL 43 (a.add 3) λ_ y _=>br (decide ((y:Int)>200)) (K (.tuple (Array.mk [.int .i64 (-1),.int .i64 4])))<|f []
theorem f190 {x0:List Value} (h:s190 x0 K cs):fn 190 [.agg (.mk x0)] K cs:=fO (an:=⟨[(9,[(34,.int .i64)])],[(8,[])]⟩) Tryz.func190 h
@[reducible] def s290 (x0:Int) (x1:Int) (x2:Int) (K:Value→SP):SP:=
 br (decide (x0≥x1)) (K (.bool (decide (x0≤x2))))<|K (.bool false)
theorem f290 {x0 x1 x2:Int} (h:s290 x0 x1 x2 K cs):fn 290 [.int .i64 x0,.int .i64 x1,.int .i64 x2] K cs:=fO (an:=⟨[],[]⟩) Tryz.func290 h
@[reducible] def s291 (x0:Int) (x1:Int) (x2:Int) (K:Value→SP):SP:=
 br (decide (x0≥x1)) (K (.bool (decide (x0≤x2))))<|K (.bool false)
theorem f291 {x0 x1 x2:Int} (h:s291 x0 x1 x2 K cs):fn 291 [.int .i64 x0,.int .i64 x1,.int .i64 x2] K cs:=fO (an:=⟨[],[]⟩) Tryz.func291 h
@[reducible] def s292 (x0:List Value) (x1:List Value) (K:Value→SP):SP:=
 box 45 (.agg (.mk x0)) λc=>box 97 (.agg (.mk x1)) λa=>Jn (λ_=>ldI .i64 3 (a.add 0) λb=>br (b == 1) (ldS 9 (a.add 1) λe=>br (e.toList == (bs []).toList) (K (.int .i64 9))<|ldS 9 (a.add 1) λf=>br (decide ((f.size:Int)>256)) (K (.int .i64 4))<|K (.int .i64 0))<|br (b == 2) (ldA 45 (c) λg=>ldA 97 (a) λh=>fn 359 [.agg (.mk g),.agg (.mk h)]<|uI .i64 λi=>K (.int .i64 i))<|br (b == 3) (ldA 45 (c) λj=>ldI .i64 3 (a.add 3) λk=>fn 360 [.agg (.mk j),.int .i64 k]<|uB λl=>br (!l) (K (.int .i64 13))<|K (.int .i64 0))<|br (b == 4) (ldI .i64 2 (a.add 2) λm=>fn 290 [.int .i64 m,.int .i64 0,.int .i64 1000000000000]<|uB λn=>br (!n) (K (.int .i64 12))<|K (.int .i64 0))<|K (.int .i64 0))<|λo=>ldI .i64 3 (a.add 0) λp=>br (decide (p<1)) (K (.int .i64 11))<|ldI .i64 3 (a.add 0) λq=>br (decide (q>6)) (K (.int .i64 11))<|ldA 97 (a) λd=>ldA 97 (a) λr=>fn 358 [.agg (.mk r)]<|uA λs=>sB 97 a (.agg (.mk d))<|fn 357 [.agg (.mk d),.agg (.mk s)]<|uB λt=>br (!t) (K (.int .i64 2))<|o []
theorem f292 {x0 x1:List Value} (h:s292 x0 x1 K cs):fn 292 [.agg (.mk x0),.agg (.mk x1)] K cs:=fO (an:=⟨[],[(5,[])]⟩) Tryz.func292 h
@[reducible] def s357 (x0:List Value) (x1:List Value) (K:Value→SP):SP:=
 box 97 (.agg (.mk x0)) λa=>box 97 (.agg (.mk x1)) λb=>Jn (λd=>unB (d.headD undef) λe=>br (e) (ldL 95 (a.add 4) λf g h=>ldL 95 (b.add 4) λi j k=>fn 397 [.slice f g h,.slice i j k]<|uB λl=>K (.bool l))<|K (.bool false))<|λc=>ldI .i64 3 (a.add 0) λm=>ldI .i64 3 (b.add 0) λn=>br (m == n) (ldS 9 (a.add 1) λo=>ldS 9 (b.add 1) λp=>br (o.toList == p.toList) (ldI .i64 2 (a.add 2) λq=>ldI .i64 2 (b.add 2) λr=>br (q == r) (ldI .i64 3 (a.add 3) λs=>ldI .i64 3 (b.add 3) λt=>br (s == t) (ldI .i64 3 (a.add 5) λu=>ldI .i64 3 (b.add 5) λv=>br (u == v) (ldI .i64 3 (a.add 6) λw=>ldI .i64 3 (b.add 6) λx=>c [.bool (w == x)])<|c [.bool false])<|c [.bool false])<|c [.bool false])<|c [.bool false])<|c [.bool false]
theorem f357 {x0 x1:List Value} (h:s357 x0 x1 K cs):fn 357 [.agg (.mk x0),.agg (.mk x1)] K cs:=fO (an:=⟨[],[(2,[(5,.bool)])]⟩) Tryz.func357 h
@[reducible] def s358 (x0:List Value) (K:Value→SP):SP:=
 box 97 (.agg (.mk x0)) λa=>new 97 λc=>ldI .i64 3 (a.add 0) λj=>new 97 λb=>st 97 (b) (.agg (.mk [.int .i64 j,.string (bs []),.int .i64 0,.int .i64 0,.slice none 0 0,.int .i64 0,.int .i64 0]))<|ldI .i64 3 (a.add 0) λd=>br (d == 1) (ldS 9 (a.add 1) λk=>st 9 (b.add 1) (.string k)<|ldA 97 (b) λl=>st 97 (c) (.agg (.mk l))<|qy (loadVar 97 c)<|uA λm=>K (.agg (.mk m)))<|br (d == 2) (ldI .i64 2 (a.add 2) λn=>ldL 95 (a.add 4) λg h i=>ldI .i64 3 (a.add 5) λf=>ldI .i64 3 (a.add 6) λe=>st 2 (b.add 2) (.int .i64 n)<|sB 3 (a.add 6) (.int .i64 e)<|sB 3 (a.add 5) (.int .i64 f)<|sB 95 (a.add 4) (.slice g h i)<|st 95 (b.add 4) (.slice g h i)<|sB 3 (a.add 6) (.int .i64 e)<|sB 3 (a.add 5) (.int .i64 f)<|st 3 (b.add 5) (.int .i64 f)<|sB 3 (a.add 6) (.int .i64 e)<|st 3 (b.add 6) (.int .i64 e)<|ldA 97 (b) λo=>st 97 (c) (.agg (.mk o))<|qy (loadVar 97 c)<|uA λp=>K (.agg (.mk p)))<|br (d == 3) (ldI .i64 3 (a.add 3) λq=>st 3 (b.add 3) (.int .i64 q)<|ldA 97 (b) λr=>st 97 (c) (.agg (.mk r))<|qy (loadVar 97 c)<|uA λs=>K (.agg (.mk s)))<|br (d == 4) (ldI .i64 2 (a.add 2) λt=>st 2 (b.add 2) (.int .i64 t)<|ldA 97 (b) λu=>st 97 (c) (.agg (.mk u))<|qy (loadVar 97 c)<|uA λv=>K (.agg (.mk v)))<|ldA 97 (b) λw=>st 97 (c) (.agg (.mk w))<|qy (loadVar 97 c)<|uA λx=>K (.agg (.mk x))
theorem f358 {x0:List Value} (h:s358 x0 K cs):fn 358 [.agg (.mk x0)] K cs:=fO (an:=⟨[],[]⟩) Tryz.func358 h
@[reducible] def s359 (x0:List Value) (x1:List Value) (K:Value→SP):SP:=
 box 45 (.agg (.mk x0)) λd=>box 97 (.agg (.mk x1)) λa=>Jn (λ_=>ldL 95 (a.add 4) λl e m=>Lp (λn o=>unI .i64 (o.headD undef) λc=>br (decide (c<(e:Int))) (ix 95 (.slice l e m) (c) λp=>ldA 146 (p) λq=>new 146 λf=>st 146 (f) (.agg (.mk q))<|ldA 45 (d) λr=>ldA 146 (f) λs=>fn 398 [.agg (.mk r),.agg (.mk s)]<|uI .i64 λg=>br (g != 0) (K (.int .i64 g))<|n [.int .i64 (w64 (c+1))])<|ldI .i64 3 (a.add 5) λt=>ldI .i64 3 (a.add 6) λu=>sm (Instr.buildSlice 34 2 (Array.mk [(0,.int .i64 t),(1,.int .i64 u)]))<|uL λv h w=>Lp (λi x=>unI .i64 (x.headD undef) λb=>br (decide (b<(h:Int))) (ix 34 (.slice v h w) (b) λy=>ldI .i64 3 (y) λj=>br (j != -1) (ldA 45 (d) λz=>fn 360 [.agg (.mk z),.int .i64 j]<|uB λA=>br (!A) (K (.int .i64 13))<|i [.int .i64 (w64 (b+1))])<|i [.int .i64 (w64 (b+1))])<|K (.int .i64 0)) [.int .i64 0]) [.int .i64 0])<|λk=>ldI .i64 2 (a.add 2) λB=>br (B != 9223372036854775807) (ldI .i64 2 (a.add 2) λC=>fn 290 [.int .i64 C,.int .i64 0,.int .i64 1000000000000]<|uB λD=>br (!D) (K (.int .i64 12))<|ldL 95 (a.add 4) λ_ E _=>br (decide ((E:Int)>8)) (K (.int .i64 4))<|k [])<|ldL 95 (a.add 4) λ_ F _=>br (decide ((F:Int)>8)) (K (.int .i64 4))<|k []
theorem f359 {x0 x1:List Value} (h:s359 x0 x1 K cs):fn 359 [.agg (.mk x0),.agg (.mk x1)] K cs:=fO (an:=⟨[(6,[(28,.int .i64)]),(13,[(45,.int .i64)])],[(5,[])]⟩) Tryz.func359 h
@[reducible] def s360 (x0:List Value) (x1:Int) (K:Value→SP):SP:=
 box 45 (.agg (.mk x0)) λa=>br (decide (x1≥0)) (ldL 43 (a.add 3) λ_ b _=>K (.bool (decide (x1≤(b:Int)))))<|K (.bool false)
theorem f360 {x0:List Value} {x1:Int} (h:s360 x0 x1 K cs):fn 360 [.agg (.mk x0),.int .i64 x1] K cs:=fO (an:=⟨[],[]⟩) Tryz.func360 h
@[reducible] def s398 (x0:List Value) (x1:List Value) (K:Value→SP):SP:=
 box 45 (.agg (.mk x0)) λd=>box 146 (.agg (.mk x1)) λa=>ldS 9 (a.add 0) λe=>br (decide ((e.size:Int)>64)) (K (.int .i64 4))<|ldS 9 (a.add 0) λf=>fn 420 [.string f]<|uT λb=>gI .i64 b 0 λ_=>gI .i64 b 1 λc=>br (c != 0) (K (.int .i64 c))<|ldA 45 (d) λg=>ldI .i64 3 (a.add 1) λh=>fn 360 [.agg (.mk g),.int .i64 h]<|uB λi=>br (!i) (K (.int .i64 13))<|K (.int .i64 0)
theorem f398 {x0 x1:List Value} (h:s398 x0 x1 K cs):fn 398 [.agg (.mk x0),.agg (.mk x1)] K cs:=fO (an:=⟨[],[]⟩) Tryz.func398 h
end Go.Proofs.YtbjlfobjngogkaaGreatDoor
namespace Go.Proofs.YtbjlfobjngogkaaGreatDoor
open Go
variable {K:Value→SP} {cs:St}
@[reducible] def s85 (x0:Int) (x1:Int) (K:Value→SP):SP:=
 fn 145 [.int .i64 x0]<|uI .i64 λa=>fn 145 [.int .i64 x1]<|uI .i64 λb=>br (decide (a≥w64 (9223372036854775807-b))) (K (.int .i64 9223372036854775807))<|K (.int .i64 (w64 (a+b)))
theorem f85 {x0 x1:Int} (h:s85 x0 x1 K cs):fn 85 [.int .i64 x0,.int .i64 x1] K cs:=fO (an:=⟨[],[]⟩) Tryz.func85 h
@[reducible] def s145 (x0:Int) (K:Value→SP):SP:=
 K (.int .i64 (if 0>x0 then 0 else x0))
theorem f145 {x0:Int} (h:s145 x0 K cs):fn 145 [.int .i64 x0] K cs:=fO (an:=⟨[],[]⟩) Tryz.func145 h
@[reducible] def s158 (x0:Int) (x1:Int) (K:Value→SP):SP:=
 br (x0 != 9223372036854775807) (fn 145 [.int .i64 x0]<|uI .i64 λa=>fn 145 [.int .i64 x1]<|uI .i64 λb=>K (.bool (decide (a≤b))))<|K (.bool false)
theorem f158 {x0 x1:Int} (h:s158 x0 x1 K cs):fn 158 [.int .i64 x0,.int .i64 x1] K cs:=fO (an:=⟨[],[]⟩) Tryz.func158 h
@[reducible] def s189 (x0:Int) (x1:Int) (K:Value→SP):SP:=
 Jn (λ_=>fn 288 [.int .u64 (IntKind.wrap .u64 x0),.int .u64 (IntKind.wrap .u64 x1)]<|uT λa=>gI .u64 a 0 λc=>gI .u64 a 1 λb=>br (decide (c>0)) (K (.int .i64 9223372036854775807))<|br (decide (b≥9223372036854775807)) (K (.int .i64 9223372036854775807))<|K (.int .i64 (w64 b)))<|λd=>br (decide (x1<1)) (K (.int .i64 0))<|br (decide (x0<1)) (K (.int .i64 0))<|d []
theorem f189 {x0 x1:Int} (h:s189 x0 x1 K cs):fn 189 [.int .i64 x0,.int .i64 x1] K cs:=fO (an:=⟨[],[(3,[])]⟩) Tryz.func189 h
@[reducible] def s228 (x0:Int) (K:Value→SP):SP:=
 fn 145 [.int .i64 x0]<|uI .i64 λa=>K (.int .i64 a)
theorem f228 {x0:Int} (h:s228 x0 K cs):fn 228 [.int .i64 x0] K cs:=fO (an:=⟨[],[]⟩) Tryz.func228 h
@[reducible] def s340 (x0:Option Addr) (y0:Nat) (z0:Nat) (K:Value→SP):SP:=
 Lp (λe c=>unI .i64 (c.headD undef) λa=>unI .i64 (c.tail.headD undef) λb=>br (decide (b<(y0:Int))) (ix 123 (.slice x0 y0 z0) (b) λf=>ldI .i64 2 (f) λg=>fn 145 [.int .i64 g]<|uI .i64 λd=>e [.int .i64 (if d<a then d else a),.int .i64 (w64 (b+1))])<|K (.int .i64 a)) [.int .i64 9223372036854775807,.int .i64 0]
theorem f340 {x0:Option Addr} {y0 z0:Nat} (h:s340 x0 y0 z0 K cs):fn 340 [.slice x0 y0 z0] K cs:=fO (an:=⟨[(3,[(3,.int .i64),(8,.int .i64)])],[]⟩) Tryz.func340 h
@[reducible] def s440 (x0:ByteArray) (K:Value→SP):SP:=
 br (x0.toList == (bs [110,101,118,101,114]).toList) (K (.tuple (Array.mk [.int .i64 9223372036854775807,.int .i64 0])))<|fn 453 [.string x0]<|uB λc=>br (!c) (K (.tuple (Array.mk [.int .i64 0,.int .i64 2])))<|fn 454 [.string x0,.int .i64 10,.int .i64 64]<|uT λa=>gI .i64 a 0 λb=>gV a 1 λd=>qy (bsem BinOp.neq 118 (Operand.tmp 16) (Operand.const .nilIface) d .nilIface)<|uB λe=>br (e) (K (.tuple (Array.mk [.int .i64 0,.int .i64 12])))<|br (b == 9223372036854775807) (K (.tuple (Array.mk [.int .i64 0,.int .i64 12])))<|K (.tuple (Array.mk [.int .i64 b,.int .i64 0]))
theorem f440 {x0:ByteArray} (h:s440 x0 K cs):fn 440 [.string x0] K cs:=fO (an:=⟨[],[]⟩) Tryz.func440 h
@[reducible] def s453 (x0:ByteArray) (K:Value→SP):SP:=
 Lp (λb c=>unI .i64 (c.headD undef) λa=>br (decide (a<(x0.size:Int))) (qy (Instr.index 9 (.string x0) (.int .i64 a))<|uI .u8 λd=>br (decide (d<48)) (K (.bool false))<|qy (Instr.index 9 (.string x0) (.int .i64 a))<|uI .u8 λe=>br (decide (e>57)) (K (.bool false))<|b [.int .i64 (w64 (a+1))])<|br (x0.toList == (bs [48]).toList) (K (.bool true))<|br (!x0.toList == (bs []).toList) (qy (Instr.index 9 (.string x0) (.int .i64 0))<|uI .u8 λf=>K (.bool (f != 48)))<|K (.bool false)) [.int .i64 0]
theorem f453 {x0:ByteArray} (h:s453 x0 K cs):fn 453 [.string x0] K cs:=fO (an:=⟨[(2,[(6,.int .i64)])],[]⟩) Tryz.func453 h
@[reducible] def s68 (x0:List Value) (K:Value→SP):SP:=
 box 23 (.agg (.mk x0)) λa=>ldA 23 (a) λb=>fn 132 [.agg (.mk b)]<|uB λc=>K (.bool c)
theorem f68 {x0:List Value} (h:s68 x0 K cs):fn 68 [.agg (.mk x0)] K cs:=fO (an:=⟨[],[]⟩) Tryz.func68 h
@[reducible] def s116 (x0:List Value) (x1:Int) (x2:Int) (K:Value→SP):SP:=
 box 23 (.agg (.mk x0)) λa=>ldA 23 (a) λb=>fn 132 [.agg (.mk b)]<|uB λc=>br (!c) (K (.int .i64 0))<|ldA 23 (a) λd=>fn 135 [.agg (.mk d)]<|uI .i64 λe=>fn 189 [.int .i64 x2,.int .i64 e]<|uI .i64 λf=>fn 85 [.int .i64 x1,.int .i64 f]<|uI .i64 λg=>fn 85 [.int .i64 g,.int .i64 x2]<|uI .i64 λh=>K (.int .i64 h)
theorem f116 {x0:List Value} {x1 x2:Int} (h:s116 x0 x1 x2 K cs):fn 116 [.agg (.mk x0),.int .i64 x1,.int .i64 x2] K cs:=fO (an:=⟨[],[]⟩) Tryz.func116 h
@[reducible] def s132 (x0:List Value) (K:Value→SP):SP:=
 box 23 (.agg (.mk x0)) λa=>Jn (λc=>unB (c.headD undef) λd=>br (d) (ldI .i64 3 (a.add 0) λe=>fn 211 [.int .i64 e,.int .i64 1024]<|uB λf=>br (f) (ldI .i64 3 (a.add 4) λg=>fn 211 [.int .i64 g,.int .i64 1000000]<|uB λh=>br (h) (ldI .i64 3 (a.add 5) λi=>fn 211 [.int .i64 i,.int .i64 64]<|uB λj=>K (.bool j))<|K (.bool false))<|K (.bool false))<|K (.bool false))<|λb=>ldI .i64 3 (a.add 1) λk=>fn 211 [.int .i64 k,.int .i64 4096]<|uB λl=>br (l) (ldI .i64 3 (a.add 2) λm=>fn 211 [.int .i64 m,.int .i64 4096]<|uB λn=>br (n) (ldI .i64 3 (a.add 3) λo=>fn 211 [.int .i64 o,.int .i64 4096]<|uB λp=>b [.bool p])<|b [.bool false])<|b [.bool false]
theorem f132 {x0:List Value} (h:s132 x0 K cs):fn 132 [.agg (.mk x0)] K cs:=fO (an:=⟨[],[(2,[(3,.bool)])]⟩) Tryz.func132 h
@[reducible] def s135 (x0:List Value) (K:Value→SP):SP:=
 box 23 (.agg (.mk x0)) λa=>ldA 23 (a) λc=>fn 132 [.agg (.mk c)]<|uB λd=>br (!d) (K (.int .i64 0))<|ldI .i64 3 (a.add 0) λb=>ldA 23 (a) λe=>fn 214 [.agg (.mk e)]<|uI .i64 λf=>sB 3 (a.add 0) (.int .i64 b)<|K (.int .i64 (w64 (b*f)))
theorem f135 {x0:List Value} (h:s135 x0 K cs):fn 135 [.agg (.mk x0)] K cs:=fO (an:=⟨[],[]⟩) Tryz.func135 h
@[reducible] def s211 (x0:Int) (x1:Int) (K:Value→SP):SP:=
 br (decide (x0≥1)) (K (.bool (decide (x0≤x1))))<|K (.bool false)
theorem f211 {x0 x1:Int} (h:s211 x0 x1 K cs):fn 211 [.int .i64 x0,.int .i64 x1] K cs:=fO (an:=⟨[],[]⟩) Tryz.func211 h
@[reducible] def s214 (x0:List Value) (K:Value→SP):SP:=
 box 23 (.agg (.mk x0)) λa=>ldA 23 (a) λd=>fn 132 [.agg (.mk d)]<|uB λe=>br (!e) (K (.int .i64 0))<|ldA 23 (a) λf=>ldI .i64 3 (a.add 4) λb=>ldI .i64 3 (a.add 4) λc=>fn 310 [.agg (.mk f)]<|uI .i64 λg=>sB 3 (a.add 4) (.int .i64 c)<|sB 3 (a.add 4) (.int .i64 b)<|qy (bsem BinOp.quo 3 (Operand.tmp 11) (Operand.tmp 13) (.int .i64 (w64 (w64 (g+b)-1))) (.int .i64 c))<|uI .i64 λh=>K (.int .i64 h)
theorem f214 {x0:List Value} (h:s214 x0 K cs):fn 214 [.agg (.mk x0)] K cs:=fO (an:=⟨[],[]⟩) Tryz.func214 h
@[reducible] def s251 (x0:List Value) (x1:Int) (x2:Int) (x3:Int) (K:Value→SP):SP:=
 box 23 (.agg (.mk x0)) λa=>ldA 23 (a) λf=>fn 132 [.agg (.mk f)]<|uB λg=>br (!g) (K (.int .i64 0))<|br (x1 == 2) (ldI .i64 3 (a.add 2) λh=>ldI .i64 3 (a.add 2) λc=>ldI .i64 3 (a.add 2) λb=>fn 336 [.int .i64 x2,.int .i64 h]<|uI .i64 λd=>sB 3 (a.add 2) (.int .i64 b)<|sB 3 (a.add 2) (.int .i64 c)<|fn 336 [.int .i64 x3,.int .i64 c]<|uI .i64 λe=>sB 3 (a.add 2) (.int .i64 b)<|K (.int .i64 (w64 (1+if b<w64 (d+e)then b else w64 (d+e)))))<|br (x1 == 1) (ldI .i64 3 (a.add 3) λi=>fn 336 [.int .i64 x3,.int .i64 i]<|uI .i64 λj=>K (.int .i64 (w64 (1+j))))<|K (.int .i64 1)
theorem f251 {x0:List Value} {x1 x2 x3:Int} (h:s251 x0 x1 x2 x3 K cs):fn 251 [.agg (.mk x0),.int .i64 x1,.int .i64 x2,.int .i64 x3] K cs:=fO (an:=⟨[],[]⟩) Tryz.func251 h
@[reducible] def s310 (x0:List Value) (K:Value→SP):SP:=
 box 23 (.agg (.mk x0)) λa=>ldI .i64 3 (a.add 2) λb=>ldI .i64 3 (a.add 3) λc=>K (.int .i64 (w64 (1+if c>b then c else b)))
theorem f310 {x0:List Value} (h:s310 x0 K cs):fn 310 [.agg (.mk x0)] K cs:=fO (an:=⟨[],[]⟩) Tryz.func310 h
@[reducible] def s336 (x0:Int) (x1:Int) (K:Value→SP):SP:=
 K (.int .i64 (if x1<if 0>x0 then 0 else x0 then x1 else if 0>x0 then 0 else x0))
theorem f336 {x0 x1:Int} (h:s336 x0 x1 K cs):fn 336 [.int .i64 x0,.int .i64 x1] K cs:=fO (an:=⟨[],[]⟩) Tryz.func336 h
@[reducible] def s229 (x0:Int) (x1:Int) (K:Value→SP):SP:=
 new 306 λa=>fn 322 [.int .i64 x0,.int .i64 x1]<|uI .i64 λb=>st 306 (a) (.agg (.mk [.int .i64 9223372036854775807,.int .i64 b,.int .i64 9223372036854775807]))<|qy (loadVar 306 a)<|uA λc=>K (.agg (.mk c))
theorem f229 {x0 x1:Int} (h:s229 x0 x1 K cs):fn 229 [.int .i64 x0,.int .i64 x1] K cs:=fO (an:=⟨[],[]⟩) Tryz.func229 h
@[reducible] def s263 (x0:List Value) (K:Value→SP):SP:=
 box 306 (.agg (.mk x0)) λa=>ldI .i64 2 (a.add 0) λb=>ldI .i64 2 (a.add 1) λc=>ldI .i64 2 (a.add 2) λd=>sm (Instr.buildSlice 123 3 (Array.mk [(0,.int .i64 b),(1,.int .i64 c),(2,.int .i64 d)]))<|uL λe f g=>fn 340 [.slice e f g]<|uI .i64 λh=>K (.int .i64 h)
theorem f263 {x0:List Value} (h:s263 x0 K cs):fn 263 [.agg (.mk x0)] K cs:=fO (an:=⟨[],[]⟩) Tryz.func263 h
@[reducible] def s322 (x0:Int) (x1:Int) (K:Value→SP):SP:=
 br (x1 == 9223372036854775807) (K (.int .i64 9223372036854775807))<|fn 85 [.int .i64 x0,.int .i64 x1]<|uI .i64 λa=>K (.int .i64 a)
theorem f322 {x0 x1:Int} (h:s322 x0 x1 K cs):fn 322 [.int .i64 x0,.int .i64 x1] K cs:=fO (an:=⟨[],[]⟩) Tryz.func322 h
@[reducible] def s323 (x0:List Value) (K:Value→SP):SP:=
 box 306 (.agg (.mk x0)) λa=>new 306 λb=>st 2 (a.add 0) (.int .i64 9223372036854775807)<|ldA 306 (a) λc=>st 306 (b) (.agg (.mk c))<|qy (loadVar 306 b)<|uA λd=>K (.agg (.mk d))
theorem f323 {x0:List Value} (h:s323 x0 K cs):fn 323 [.agg (.mk x0)] K cs:=fO (an:=⟨[],[]⟩) Tryz.func323 h
@[reducible] def s326 (x0:List Value) (x1:Int) (x2:Int) (K:Value→SP):SP:=
 box 306 (.agg (.mk x0)) λa=>new 306 λb=>fn 322 [.int .i64 x1,.int .i64 x2]<|uI .i64 λc=>st 2 (a.add 0) (.int .i64 c)<|ldA 306 (a) λd=>st 306 (b) (.agg (.mk d))<|qy (loadVar 306 b)<|uA λe=>K (.agg (.mk e))
theorem f326 {x0:List Value} {x1 x2:Int} (h:s326 x0 x1 x2 K cs):fn 326 [.agg (.mk x0),.int .i64 x1,.int .i64 x2] K cs:=fO (an:=⟨[],[]⟩) Tryz.func326 h
@[reducible] def s327 (x0:List Value) (x1:Int) (K:Value→SP):SP:=
 box 306 (.agg (.mk x0)) λa=>new 306 λb=>ldI .i64 2 (a.add 2) λc=>sm (Instr.buildSlice 123 2 (Array.mk [(0,.int .i64 c),(1,.int .i64 x1)]))<|uL λd e f=>fn 340 [.slice d e f]<|uI .i64 λg=>st 2 (a.add 2) (.int .i64 g)<|ldA 306 (a) λh=>st 306 (b) (.agg (.mk h))<|qy (loadVar 306 b)<|uA λi=>K (.agg (.mk i))
theorem f327 {x0:List Value} {x1:Int} (h:s327 x0 x1 K cs):fn 327 [.agg (.mk x0),.int .i64 x1] K cs:=fO (an:=⟨[],[]⟩) Tryz.func327 h
@[reducible] def s333 (x0:List Value) (x1:Int) (K:Value→SP):SP:=
 box 306 (.agg (.mk x0)) λc=>ldI .i64 2 (c.add 1) λe=>ldI .i64 2 (c.add 2) λd=>fn 228 [.int .i64 e]<|uI .i64 λb=>sB 2 (c.add 2) (.int .i64 d)<|fn 228 [.int .i64 d]<|uI .i64 λa=>br (decide (b≤a)) (fn 158 [.int .i64 b,.int .i64 x1]<|uB λf=>br (f) (K (.tuple (Array.mk [.int .i64 3,.bool true])))<|br (decide (a<b)) (fn 158 [.int .i64 a,.int .i64 x1]<|uB λg=>br (g) (K (.tuple (Array.mk [.int .i64 5,.bool true])))<|K (.tuple (Array.mk [.int .i64 0,.bool false])))<|K (.tuple (Array.mk [.int .i64 0,.bool false])))<|br (decide (a<b)) (fn 158 [.int .i64 a,.int .i64 x1]<|uB λh=>br (h) (K (.tuple (Array.mk [.int .i64 5,.bool true])))<|K (.tuple (Array.mk [.int .i64 0,.bool false])))<|K (.tuple (Array.mk [.int .i64 0,.bool false]))
theorem f333 {x0:List Value} {x1:Int} (h:s333 x0 x1 K cs):fn 333 [.agg (.mk x0),.int .i64 x1] K cs:=fO (an:=⟨[],[]⟩) Tryz.func333 h
@[reducible] def s335 (x0:List Value) (x1:Int) (K:Value→SP):SP:=
 box 306 (.agg (.mk x0)) λa=>ldI .i64 2 (a.add 0) λb=>fn 158 [.int .i64 b,.int .i64 x1]<|uB λc=>K (.bool c)
theorem f335 {x0:List Value} {x1:Int} (h:s335 x0 x1 K cs):fn 335 [.agg (.mk x0),.int .i64 x1] K cs:=fO (an:=⟨[],[]⟩) Tryz.func335 h
@[reducible] def s175 (x0:Addr) (K:Value→SP):SP:=
 ldL 110 (x0.add 0) λ_ a _=>ldI .i64 3 (x0.add 2) λb=>K (.int .i64 (w64 ((a:Int)-b)))
theorem f175 {x0:Addr} (h:s175 x0 K cs):fn 175 [.pointer (some x0)] K cs:=fO (an:=⟨[],[]⟩) Tryz.func175 h
@[reducible] def s230 (x0:Int) (K:Value→SP):SP:=
 sm (Instr.makeSlice 110 (.int .i64 (if 4096<if 1>x0 then 1 else x0 then 4096 else if 1>x0 then 1 else x0)) (.int .i64 (if 4096<if 1>x0 then 1 else x0 then 4096 else if 1>x0 then 1 else x0)))<|uL λa b c=>box 380 (.agg (.mk [.slice a b c,.int .i64 0,.int .i64 0])) λd=>K (.pointer (some d))
theorem f230 {x0:Int} (h:s230 x0 K cs):fn 230 [.int .i64 x0] K cs:=fO (an:=⟨[],[]⟩) Tryz.func230 h
@[reducible] def s248 (x0:Addr) (K:Value→SP):SP:=
 ldI .i64 3 (x0.add 2) λa=>K (.int .i64 a)
theorem f248 {x0:Addr} (h:s248 x0 K cs):fn 248 [.pointer (some x0)] K cs:=fO (an:=⟨[],[]⟩) Tryz.func248 h
@[reducible] def s328 (x0:Addr) (x1:ByteArray) (K:Value→SP):SP:=
 ldL 110 (x0.add 0) λ_ a _=>ldI .i64 3 (x0.add 2) λb=>ldI .i64 3 (x0.add 2) λc=>fn 388 [.pointer (some x0),.int .i64 c]<|uI .i64 λd=>ldL 110 (x0.add 0) λe f g=>qy (Instr.sliceAt 110 (.slice e f g) (some (.int .i64 d)) none none)<|uL λh i j=>qy (Instr.sliceAt 9 (.string x1) none (some (.int .i64 (if w64 ((a:Int)-b)<(x1.size:Int)then w64 ((a:Int)-b)else(x1.size:Int)))) none)<|uS λk=>sm (Builtin.copy_ (Array.mk [110,9]) 3 (Array.mk [.slice h i j,.string k]))<|uI .i64 λl=>ldL 110 (x0.add 0) λm n o=>qy (Instr.sliceAt 9 (.string x1) (some (.int .i64 l)) (some (.int .i64 (if w64 ((a:Int)-b)<(x1.size:Int)then w64 ((a:Int)-b)else(x1.size:Int)))) none)<|uS λp=>sm (Builtin.copy_ (Array.mk [110,9]) 3 (Array.mk [.slice m n o,.string p]))<|uI .i64 λ_=>ldI .i64 3 (x0.add 2) λq=>st 3 (x0.add 2) (.int .i64 (w64 (q+if w64 ((a:Int)-b)<(x1.size:Int)then w64 ((a:Int)-b)else(x1.size:Int))))<|K (.int .i64 (if w64 ((a:Int)-b)<(x1.size:Int)then w64 ((a:Int)-b)else(x1.size:Int)))
theorem f328 {x0:Addr} {x1:ByteArray} (h:s328 x0 x1 K cs):fn 328 [.pointer (some x0),.string x1] K cs:=fO (an:=⟨[],[]⟩) Tryz.func328 h
@[reducible] def s388 (x0:Addr) (x1:Int) (K:Value→SP):SP:=
 ldI .i64 3 (x0.add 1) λa=>ldL 110 (x0.add 0) λ_ b _=>qy (bsem BinOp.rem 3 (Operand.tmp 10) (Operand.tmp 15) (.int .i64 (w64 (a+x1))) (.int .i64 (b:Int)))<|uI .i64 λc=>K (.int .i64 c)
theorem f388 {x0:Addr} {x1:Int} (h:s388 x0 x1 K cs):fn 388 [.pointer (some x0),.int .i64 x1] K cs:=fO (an:=⟨[],[]⟩) Tryz.func388 h
@[reducible] def s431 (x0:Addr) (x1:Int) (K:Value→SP):SP:=
 ldI .i64 3 (x0.add 2) λa=>fn 446 [.pointer (some x0),.int .i64 0,.int .i64 (if a<if 0>x1 then 0 else x1 then a else if 0>x1 then 0 else x1)]<|uS λb=>fn 447 [.pointer (some x0),.int .i64 (if a<if 0>x1 then 0 else x1 then a else if 0>x1 then 0 else x1)]<|uT λ_=>K (.string b)
theorem f431 {x0:Addr} {x1:Int} (h:s431 x0 x1 K cs):fn 431 [.pointer (some x0),.int .i64 x1] K cs:=fO (an:=⟨[],[]⟩) Tryz.func431 h
@[reducible] def s446 (x0:Addr) (x1:Int) (x2:Int) (K:Value→SP):SP:=
 br (x2 == 0) (K (.string (bs [])))<|fn 388 [.pointer (some x0),.int .i64 x1]<|uI .i64 λa=>ldL 110 (x0.add 0) λ_ b _=>br (decide (w64 (a+x2)≤(b:Int))) (ldL 110 (x0.add 0) λc d e=>qy (Instr.sliceAt 110 (.slice c d e) (some (.int .i64 a)) (some (.int .i64 (w64 (a+x2)))) none)<|uL λf g h=>qy (convert 110 9 (.slice f g h))<|uS λi=>K (.string i))<|ldL 110 (x0.add 0) λj k l=>qy (Instr.sliceAt 110 (.slice j k l) (some (.int .i64 a)) none none)<|uL λm n o=>qy (convert 110 9 (.slice m n o))<|uS λp=>ldL 110 (x0.add 0) λq r s=>ldL 110 (x0.add 0) λ_ t _=>qy (Instr.sliceAt 110 (.slice q r s) none (some (.int .i64 (w64 (w64 (a+x2)-(t:Int))))) none)<|uL λu v w=>qy (convert 110 9 (.slice u v w))<|uS λx=>qy (bsem BinOp.add 9 (Operand.tmp 38) (Operand.tmp 53) (.string p) (.string x))<|uS λy=>K (.string y)
theorem f446 {x0:Addr} {x1 x2:Int} (h:s446 x0 x1 x2 K cs):fn 446 [.pointer (some x0),.int .i64 x1,.int .i64 x2] K cs:=fO (an:=⟨[],[]⟩) Tryz.func446 h
@[reducible] def s447 (x0:Addr) (x1:Int) (K:Value→SP):SP:=
 fn 388 [.pointer (some x0),.int .i64 x1]<|uI .i64 λa=>st 3 (x0.add 1) (.int .i64 a)<|ldI .i64 3 (x0.add 2) λb=>st 3 (x0.add 2) (.int .i64 (w64 (b-x1)))<|ldI .i64 3 (x0.add 2) λc=>br (c == 0) (st 3 (x0.add 1) (.int .i64 0)<|K (undef))<|K (undef)
theorem f447 {x0:Addr} {x1:Int} (h:s447 x0 x1 K cs):fn 447 [.pointer (some x0),.int .i64 x1] K cs:=fO (an:=⟨[],[]⟩) Tryz.func447 h
@[reducible] def s176 (x0:Addr) (K:Value→SP):SP:=
 ldS 9 (x0.add 1) λa=>ldI .i64 3 (x0.add 2) λb=>ldI .i64 3 (x0.add 3) λc=>qy (Instr.sliceAt 9 (.string a) (some (.int .i64 b)) (some (.int .i64 c)) none)<|uS λd=>K (.string d)
theorem f176 {x0:Addr} (h:s176 x0 K cs):fn 176 [.pointer (some x0)] K cs:=fO (an:=⟨[],[]⟩) Tryz.func176 h
@[reducible] def s232 (x0:Int) (K:Value→SP):SP:=
 box 382 (.agg (.mk [.int .i64 (if 4096<if 1>x0 then 1 else x0 then 4096 else if 1>x0 then 1 else x0),.string (bs []),.int .i64 0,.int .i64 0,.int .i64 0])) λa=>K (.pointer (some a))
theorem f232 {x0:Int} (h:s232 x0 K cs):fn 232 [.int .i64 x0] K cs:=fO (an:=⟨[],[]⟩) Tryz.func232 h
@[reducible] def s250 (x0:Addr) (K:Value→SP):SP:=
 ldS 9 (x0.add 1) λa=>ldI .i64 3 (x0.add 3) λb=>K (.int .i64 (w64 ((a.size:Int)-b)))
theorem f250 {x0:Addr} (h:s250 x0 K cs):fn 250 [.pointer (some x0)] K cs:=fO (an:=⟨[],[]⟩) Tryz.func250 h
@[reducible] def s324 (x0:Addr) (x1:ByteArray) (K:Value→SP):SP:=
 ldI .i64 3 (x0.add 0) λa=>st 382 (x0) (.agg (.mk [.int .i64 a,.string x1,.int .i64 0,.int .i64 0,.int .i64 0]))<|K (undef)
theorem f324 {x0:Addr} {x1:ByteArray} (h:s324 x0 x1 K cs):fn 324 [.pointer (some x0),.string x1] K cs:=fO (an:=⟨[],[]⟩) Tryz.func324 h
@[reducible] def s329 (x0:Addr) (x1:Int) (K:Value→SP):SP:=
 Jn (λ_=>ldI .i64 3 (x0.add 2) λd=>ldI .i64 3 (x0.add 2) λe=>ldI .i64 3 (x0.add 3) λa=>ldI .i64 3 (x0.add 2) λb=>st 3 (x0.add 2) (.int .i64 (w64 (e+if w64 (a-b)<if 0>x1 then 0 else x1 then w64 (a-b)else if 0>x1 then 0 else x1)))<|Jn (λ_=>ldS 9 (x0.add 1) λf=>ldI .i64 3 (x0.add 2) λg=>qy (Instr.sliceAt 9 (.string f) (some (.int .i64 d)) (some (.int .i64 g)) none)<|uS λh=>K (.string h))<|λc=>ldI .i64 3 (x0.add 2) λi=>ldI .i64 3 (x0.add 3) λj=>br (decide (i<j)) (ldI .i64 3 (x0.add 4) λk=>st 3 (x0.add 4) (.int .i64 (w64 (k+1)))<|c [])<|c [])<|λl=>ldI .i64 3 (x0.add 3) λm=>ldI .i64 3 (x0.add 2) λn=>br (m == n) (K (.string (bs [])))<|l []
theorem f329 {x0:Addr} {x1:Int} (h:s329 x0 x1 K cs):fn 329 [.pointer (some x0),.int .i64 x1] K cs:=fO (an:=⟨[],[(3,[]),(7,[])]⟩) Tryz.func329 h
@[reducible] def s334 (x0:Addr) (K:Value→SP):SP:=
 ldI .i64 3 (x0.add 3) λa=>ldI .i64 3 (x0.add 2) λb=>K (.int .i64 (w64 (a-b)))
theorem f334 {x0:Addr} (h:s334 x0 K cs):fn 334 [.pointer (some x0)] K cs:=fO (an:=⟨[],[]⟩) Tryz.func334 h
@[reducible] def s417 (x0:Addr) (K:Value→SP):SP:=
 Jn (λ_=>ldS 9 (x0.add 1) λa=>ldI .i64 3 (x0.add 3) λb=>ldI .i64 3 (x0.add 0) λc=>ldI .i64 3 (x0.add 3) λd=>st 3 (x0.add 3) (.int .i64 (w64 (d+if c<w64 ((a.size:Int)-b)then c else w64 ((a.size:Int)-b))))<|K (.int .i64 (if c<w64 ((a.size:Int)-b)then c else w64 ((a.size:Int)-b))))<|λe=>ldI .i64 3 (x0.add 3) λf=>ldI .i64 3 (x0.add 2) λg=>br (decide (f>g)) (K (.int .i64 0))<|e []
theorem f417 {x0:Addr} (h:s417 x0 K cs):fn 417 [.pointer (some x0)] K cs:=fO (an:=⟨[],[(3,[])]⟩) Tryz.func417 h
@[reducible] def s138 (x0:Int) (K:Value→SP):SP:=
 an (sm (Instr.makeSlice 34 (.int .i64 (if 1024<if 1>x0 then 1 else x0 then 1024 else if 1>x0 then 1 else x0)) (.int .i64 (if 1024<if 1>x0 then 1 else x0 then 1024 else if 1>x0 then 1 else x0)))<|uL λa b c=>an (sm (Instr.makeSlice 34 (.int .i64 (if 1024<if 1>x0 then 1 else x0 then 1024 else if 1>x0 then 1 else x0)) (.int .i64 (if 1024<if 1>x0 then 1 else x0 then 1024 else if 1>x0 then 1 else x0)))<|uL λj k l=>sm (Instr.makeSlice 348 (.int .i64 (if 1024<if 1>x0 then 1 else x0 then 1024 else if 1>x0 then 1 else x0)) (.int .i64 (if 1024<if 1>x0 then 1 else x0 then 1024 else if 1>x0 then 1 else x0)))<|uL λm n o=>box 350 (.agg (.mk [.slice a b c,.slice j k l,.slice m n o,.int .i64 (-1),.int .i64 (-1),.int .i64 0])) λp=>K (.pointer (some p)))<|sm (Instr.makeSlice 348 (.int .i64 (if 1024<if 1>x0 then 1 else x0 then 1024 else if 1>x0 then 1 else x0)) (.int .i64 (if 1024<if 1>x0 then 1 else x0 then 1024 else if 1>x0 then 1 else x0)))<|uL λq r s=>sm (Instr.makeSlice 34 (.int .i64 (if 1024<if 1>x0 then 1 else x0 then 1024 else if 1>x0 then 1 else x0)) (.int .i64 (if 1024<if 1>x0 then 1 else x0 then 1024 else if 1>x0 then 1 else x0)))<|uL λt u v=>box 350 (.agg (.mk [.slice a b c,.slice t u v,.slice q r s,.int .i64 (-1),.int .i64 (-1),.int .i64 0])) λw=>K (.pointer (some w)))<|an (sm (Instr.makeSlice 34 (.int .i64 (if 1024<if 1>x0 then 1 else x0 then 1024 else if 1>x0 then 1 else x0)) (.int .i64 (if 1024<if 1>x0 then 1 else x0 then 1024 else if 1>x0 then 1 else x0)))<|uL λd e f=>an (sm (Instr.makeSlice 34 (.int .i64 (if 1024<if 1>x0 then 1 else x0 then 1024 else if 1>x0 then 1 else x0)) (.int .i64 (if 1024<if 1>x0 then 1 else x0 then 1024 else if 1>x0 then 1 else x0)))<|uL λx y z=>sm (Instr.makeSlice 348 (.int .i64 (if 1024<if 1>x0 then 1 else x0 then 1024 else if 1>x0 then 1 else x0)) (.int .i64 (if 1024<if 1>x0 then 1 else x0 then 1024 else if 1>x0 then 1 else x0)))<|uL λA B C=>box 350 (.agg (.mk [.slice x y z,.slice d e f,.slice A B C,.int .i64 (-1),.int .i64 (-1),.int .i64 0])) λD=>K (.pointer (some D)))<|sm (Instr.makeSlice 348 (.int .i64 (if 1024<if 1>x0 then 1 else x0 then 1024 else if 1>x0 then 1 else x0)) (.int .i64 (if 1024<if 1>x0 then 1 else x0 then 1024 else if 1>x0 then 1 else x0)))<|uL λE F G=>sm (Instr.makeSlice 34 (.int .i64 (if 1024<if 1>x0 then 1 else x0 then 1024 else if 1>x0 then 1 else x0)) (.int .i64 (if 1024<if 1>x0 then 1 else x0 then 1024 else if 1>x0 then 1 else x0)))<|uL λH I J=>box 350 (.agg (.mk [.slice H I J,.slice d e f,.slice E F G,.int .i64 (-1),.int .i64 (-1),.int .i64 0])) λL=>K (.pointer (some L)))<|sm (Instr.makeSlice 348 (.int .i64 (if 1024<if 1>x0 then 1 else x0 then 1024 else if 1>x0 then 1 else x0)) (.int .i64 (if 1024<if 1>x0 then 1 else x0 then 1024 else if 1>x0 then 1 else x0)))<|uL λg h i=>an (sm (Instr.makeSlice 34 (.int .i64 (if 1024<if 1>x0 then 1 else x0 then 1024 else if 1>x0 then 1 else x0)) (.int .i64 (if 1024<if 1>x0 then 1 else x0 then 1024 else if 1>x0 then 1 else x0)))<|uL λM N O=>sm (Instr.makeSlice 34 (.int .i64 (if 1024<if 1>x0 then 1 else x0 then 1024 else if 1>x0 then 1 else x0)) (.int .i64 (if 1024<if 1>x0 then 1 else x0 then 1024 else if 1>x0 then 1 else x0)))<|uL λP Q R=>box 350 (.agg (.mk [.slice M N O,.slice P Q R,.slice g h i,.int .i64 (-1),.int .i64 (-1),.int .i64 0])) λS=>K (.pointer (some S)))<|sm (Instr.makeSlice 34 (.int .i64 (if 1024<if 1>x0 then 1 else x0 then 1024 else if 1>x0 then 1 else x0)) (.int .i64 (if 1024<if 1>x0 then 1 else x0 then 1024 else if 1>x0 then 1 else x0)))<|uL λT U V=>sm (Instr.makeSlice 34 (.int .i64 (if 1024<if 1>x0 then 1 else x0 then 1024 else if 1>x0 then 1 else x0)) (.int .i64 (if 1024<if 1>x0 then 1 else x0 then 1024 else if 1>x0 then 1 else x0)))<|uL λW X Y=>box 350 (.agg (.mk [.slice W X Y,.slice T U V,.slice g h i,.int .i64 (-1),.int .i64 (-1),.int .i64 0])) λZ=>K (.pointer (some Z))
theorem f138 {x0:Int} (h:s138 x0 K cs):fn 138 [.int .i64 x0] K cs:=fO (an:=⟨[],[]⟩) Tryz.func138 h
@[reducible] def s244 (x0:Addr) (K:Value→SP):SP:=
 ldI .i64 3 (x0.add 5) λb=>br (b == 0) (K (.tuple (Array.mk [.int .i64 0,.bool false])))<|ldI .i64 3 (x0.add 3) λa=>fn 331 [.pointer (some x0),.int .i64 a]<|uT λ_=>K (.tuple (Array.mk [.int .i64 a,.bool true]))
theorem f244 {x0:Addr} (h:s244 x0 K cs):fn 244 [.pointer (some x0)] K cs:=fO (an:=⟨[],[]⟩) Tryz.func244 h
@[reducible] def s259 (x0:Addr) (x1:Int) (K:Value→SP):SP:=
 Jn (λ_=>ldL 348 (x0.add 2) λb c d=>ldL 34 (x0.add 0) λe f g=>ldL 34 (x0.add 1) λh i j=>ldI .i64 3 (x0.add 4) λk=>ix 348 (.slice b c d) (x1) λl=>st 4 (l) (.bool true)<|ix 34 (.slice e f g) (x1) λm=>st 3 (m) (.int .i64 (-1))<|ix 34 (.slice h i j) (x1) λn=>st 3 (n) (.int .i64 k)<|Jn (λ_=>st 3 (x0.add 4) (.int .i64 x1)<|ldI .i64 3 (x0.add 5) λo=>st 3 (x0.add 5) (.int .i64 (w64 (o+1)))<|K (.bool true))<|λa=>ldI .i64 3 (x0.add 4) λp=>br (p == -1) (st 3 (x0.add 3) (.int .i64 x1)<|a [])<|ldL 34 (x0.add 0) λq r s=>ldI .i64 3 (x0.add 4) λt=>ix 34 (.slice q r s) (t) λu=>st 3 (u) (.int .i64 x1)<|a [])<|λv=>fn 339 [.pointer (some x0),.int .i64 x1]<|uB λw=>br (!w) (K (.bool false))<|ldL 348 (x0.add 2) λx y z=>ix 348 (.slice x y z) (x1) λA=>ldB 4 (A) λB=>br (B) (K (.bool false))<|v []
theorem f259 {x0:Addr} {x1:Int} (h:s259 x0 x1 K cs):fn 259 [.pointer (some x0),.int .i64 x1] K cs:=fO (an:=⟨[],[(3,[]),(7,[])]⟩) Tryz.func259 h
@[reducible] def s331 (x0:Addr) (x1:Int) (K:Value→SP):SP:=
 ldL 34 (x0.add 1) λe f g=>ix 34 (.slice e f g) (x1) λh=>ldI .i64 3 (h) λa=>ldL 34 (x0.add 0) λi j k=>ix 34 (.slice i j k) (x1) λl=>ldI .i64 3 (l) λb=>Jn (λ_=>Jn (λ_=>ldL 348 (x0.add 2) λm n o=>ix 348 (.slice m n o) (x1) λp=>st 4 (p) (.bool false)<|ldI .i64 3 (x0.add 5) λq=>st 3 (x0.add 5) (.int .i64 (w64 (q-1)))<|K (undef))<|λc=>br (b == -1) (st 3 (x0.add 4) (.int .i64 a)<|c [])<|ldL 34 (x0.add 1) λr s t=>ix 34 (.slice r s t) (b) λu=>st 3 (u) (.int .i64 a)<|c [])<|λd=>br (a == -1) (st 3 (x0.add 3) (.int .i64 b)<|d [])<|ldL 34 (x0.add 0) λv w x=>ix 34 (.slice v w x) (a) λy=>st 3 (y) (.int .i64 b)<|d []
theorem f331 {x0:Addr} {x1:Int} (h:s331 x0 x1 K cs):fn 331 [.pointer (some x0),.int .i64 x1] K cs:=fO (an:=⟨[],[(4,[]),(7,[])]⟩) Tryz.func331 h
@[reducible] def s338 (x0:Addr) (x1:Int) (K:Value→SP):SP:=
 fn 339 [.pointer (some x0),.int .i64 x1]<|uB λa=>br (!a) (K (.bool false))<|ldL 348 (x0.add 2) λb c d=>ix 348 (.slice b c d) (x1) λe=>ldB 4 (e) λf=>br (!f) (K (.bool false))<|fn 331 [.pointer (some x0),.int .i64 x1]<|uT λ_=>K (.bool true)
theorem f338 {x0:Addr} {x1:Int} (h:s338 x0 x1 K cs):fn 338 [.pointer (some x0),.int .i64 x1] K cs:=fO (an:=⟨[],[]⟩) Tryz.func338 h
@[reducible] def s339 (x0:Addr) (x1:Int) (K:Value→SP):SP:=
 br (decide (x1≥0)) (ldL 348 (x0.add 2) λ_ a _=>K (.bool (decide (x1<(a:Int)))))<|K (.bool false)
theorem f339 {x0:Addr} {x1:Int} (h:s339 x0 x1 K cs):fn 339 [.pointer (some x0),.int .i64 x1] K cs:=fO (an:=⟨[],[]⟩) Tryz.func339 h
@[reducible] def s139 (x0:Int) (x1:Int) (K:Value→SP):SP:=
 sm (Instr.makeSlice 34 (.int .i64 (if 1024<if 1>x0 then 1 else x0 then 1024 else if 1>x0 then 1 else x0)) (.int .i64 (if 1024<if 1>x0 then 1 else x0 then 1024 else if 1>x0 then 1 else x0)))<|uL λa b c=>box 352 (.agg (.mk [.slice a b c,.int .i64 (if 1000000<if 1>x1 then 1 else x1 then 1000000 else if 1>x1 then 1 else x1)])) λd=>K (.pointer (some d))
theorem f139 {x0 x1:Int} (h:s139 x0 x1 K cs):fn 139 [.int .i64 x0,.int .i64 x1] K cs:=fO (an:=⟨[],[]⟩) Tryz.func139 h
@[reducible] def s245 (x0:Addr) (x1:Int) (K:Value→SP):SP:=
 fn 332 [.pointer (some x0),.int .i64 x1]<|uB λc=>br (!c) (K (.int .i64 0))<|ldL 34 (x0.add 0) λd e f=>ldL 34 (x0.add 0) λg h i=>ix 34 (.slice g h i) (x1) λj=>ldI .i64 3 (j) λa=>ldI .i64 3 (x0.add 1) λb=>ix 34 (.slice d e f) (x1) λk=>st 3 (k) (.int .i64 (if 2000000000<w64 (a+b)then 2000000000 else w64 (a+b)))<|ldL 34 (x0.add 0) λl m n=>ix 34 (.slice l m n) (x1) λo=>ldI .i64 3 (o) λp=>K (.int .i64 p)
theorem f245 {x0:Addr} {x1:Int} (h:s245 x0 x1 K cs):fn 245 [.pointer (some x0),.int .i64 x1] K cs:=fO (an:=⟨[],[]⟩) Tryz.func245 h
@[reducible] def s247 (x0:Addr) (x1:Int) (x2:Int) (K:Value→SP):SP:=
 Jn (λ_=>ldL 34 (x0.add 0) λa b c=>ix 34 (.slice a b c) (x1) λd=>ldI .i64 3 (d) λe=>ix 34 (.slice a b c) (x1) λf=>st 3 (f) (.int .i64 (w64 (e-if 0>x2 then 0 else x2)))<|K (.bool true))<|λg=>fn 332 [.pointer (some x0),.int .i64 x1]<|uB λh=>br (!h) (K (.bool false))<|ldL 34 (x0.add 0) λi j k=>ix 34 (.slice i j k) (x1) λl=>ldI .i64 3 (l) λm=>br (decide (m<if 0>x2 then 0 else x2)) (K (.bool false))<|g []
theorem f247 {x0:Addr} {x1 x2:Int} (h:s247 x0 x1 x2 K cs):fn 247 [.pointer (some x0),.int .i64 x1,.int .i64 x2] K cs:=fO (an:=⟨[],[(4,[])]⟩) Tryz.func247 h
@[reducible] def s260 (x0:Addr) (x1:Int) (K:Value→SP):SP:=
 fn 332 [.pointer (some x0),.int .i64 x1]<|uB λa=>br (!a) (K (.int .i64 0))<|ldL 34 (x0.add 0) λb c d=>ix 34 (.slice b c d) (x1) λe=>ldI .i64 3 (e) λf=>ldL 34 (x0.add 0) λg h i=>ix 34 (.slice g h i) (x1) λj=>st 3 (j) (.int .i64 0)<|K (.int .i64 f)
theorem f260 {x0:Addr} {x1:Int} (h:s260 x0 x1 K cs):fn 260 [.pointer (some x0),.int .i64 x1] K cs:=fO (an:=⟨[],[]⟩) Tryz.func260 h
@[reducible] def s332 (x0:Addr) (x1:Int) (K:Value→SP):SP:=
 br (decide (x1≥0)) (ldL 34 (x0.add 0) λ_ a _=>K (.bool (decide (x1<(a:Int)))))<|K (.bool false)
theorem f332 {x0:Addr} {x1:Int} (h:s332 x0 x1 K cs):fn 332 [.pointer (some x0),.int .i64 x1] K cs:=fO (an:=⟨[],[]⟩) Tryz.func332 h
@[reducible] def s81 (x0:Int) (K:Value→SP):SP:=
 sm (Instr.makeSlice 34 (.int .i64 (if 1024<if 1>x0 then 1 else x0 then 1024 else if 1>x0 then 1 else x0)) (.int .i64 (if 1024<if 1>x0 then 1 else x0 then 1024 else if 1>x0 then 1 else x0)))<|uL λc d e=>box 266 (.agg (.mk [.slice none 0 0,.slice c d e])) λa=>ldL 34 (a.add 1) λ_ f _=>Lp (λg h=>unI .i64 (h.headD undef) λb=>br (decide (b<(f:Int))) (ldL 34 (a.add 1) λi j k=>ix 34 (.slice i j k) (b) λl=>st 3 (l) (.int .i64 (-1))<|g [.int .i64 (w64 (b+1))])<|K (.pointer (some a))) [.int .i64 0]
theorem f81 {x0:Int} (h:s81 x0 K cs):fn 81 [.int .i64 x0] K cs:=fO (an:=⟨[(3,[(16,.int .i64)])],[]⟩) Tryz.func81 h
@[reducible] def s95 (x0:Addr) (x1:Int) (K:Value→SP):SP:=
 fn 157 [.pointer (some x0)]<|uT λg=>gA g 0 λj=>gB g 1 λk=>new 191 λh=>st 191 (h) (.agg (.mk j))<|Lp (λl a=>unL (a.headD undef) λb c d=>unQ (a.tail.headD undef) λe=>unB (a.tail.tail.headD undef) λm=>Jn (λ_=>fn 159 [.pointer (some x0),.int .i64 0]<|uT λ_=>ldA 191 (e) λn=>sm (Instr.buildSlice 75 1 (Array.mk [(0,.agg (.mk n))]))<|uL λo p q=>sm (Builtin.append_ (Array.mk [75,75]) 75 (Array.mk [.slice b c d,.slice o p q]))<|uL λr s t=>ldA 191 (e) λu=>new 191 λf=>st 191 (f) (.agg (.mk u))<|fn 157 [.pointer (some x0)]<|uT λi=>gA i 0 λv=>gB i 1 λw=>st 191 (f) (.agg (.mk v))<|l [.slice r s t,.pointer (some f),.bool w])<|λx=>br (m) (ldI .i64 2 (e.add 0) λy=>fn 158 [.int .i64 y,.int .i64 x1]<|uB λz=>br (z) (x [])<|K (.slice b c d))<|K (.slice b c d)) [.slice none 0 0,.pointer (some h),.bool k]
theorem f95 {x0:Addr} {x1:Int} (h:s95 x0 x1 K cs):fn 95 [.pointer (some x0),.int .i64 x1] K cs:=fO (an:=⟨[(3,[(5,.sl),(6,.adr),(7,.bool)])],[(5,[])]⟩) Tryz.func95 h
@[reducible] def s157 (x0:Addr) (K:Value→SP):SP:=
 new 191 λa=>Jn (λ_=>ldL 75 (x0.add 0) λb c d=>ix 75 (.slice b c d) (0) λe=>ldA 191 (e) λf=>st 191 (a) (.agg (.mk f))<|qy (loadVar 191 a)<|uA λg=>K (.tuple (Array.mk [.agg (.mk g),.bool true])))<|λh=>ldL 75 (x0.add 0) λ_ i _=>br ((i:Int) == 0) (st 191 (a) (.agg (.mk [.int .i64 0,.int .i64 0]))<|qy (loadVar 191 a)<|uA λj=>K (.tuple (Array.mk [.agg (.mk j),.bool false])))<|h []
theorem f157 {x0:Addr} (h:s157 x0 K cs):fn 157 [.pointer (some x0)] K cs:=fO (an:=⟨[],[(3,[])]⟩) Tryz.func157 h
@[reducible] def s159 (x0:Addr) (x1:Int) (K:Value→SP):SP:=
 ldL 75 (x0.add 0) λ_ a _=>ldL 34 (x0.add 1) λc d e=>ldL 75 (x0.add 0) λf g h=>ix 75 (.slice f g h) (x1) λi=>ldI .i64 3 (i.add 1) λj=>ix 34 (.slice c d e) (j) λk=>st 3 (k) (.int .i64 (-1))<|ldL 75 (x0.add 0) λl m n=>ix 75 (.slice l m n) (w64 ((a:Int)-1)) λo=>ldA 191 (o) λp=>new 191 λb=>st 191 (b) (.agg (.mk p))<|ldL 75 (x0.add 0) λq r s=>qy (Instr.sliceAt 75 (.slice q r s) none (some (.int .i64 (w64 ((a:Int)-1)))) none)<|uL λt u v=>st 75 (x0.add 0) (.slice t u v)<|br (decide (x1<w64 ((a:Int)-1))) (ldA 191 (b) λw=>fn 241 [.pointer (some x0),.int .i64 x1,.agg (.mk w)]<|uT λ_=>fn 242 [.pointer (some x0),.int .i64 x1]<|uT λ_=>K (undef))<|K (undef)
theorem f159 {x0:Addr} {x1:Int} (h:s159 x0 x1 K cs):fn 159 [.pointer (some x0),.int .i64 x1] K cs:=fO (an:=⟨[],[]⟩) Tryz.func159 h
@[reducible] def s166 (x0:Addr) (x1:Int) (x2:Int) (K:Value→SP):SP:=
 fn 261 [.pointer (some x0),.int .i64 x1]<|uB λi=>br (!i) (K (.bool false))<|fn 228 [.int .i64 x2]<|uI .i64 λj=>new 191 λb=>st 191 (b) (.agg (.mk [.int .i64 j,.int .i64 x1]))<|ldL 34 (x0.add 1) λk l m=>ix 34 (.slice k l m) (x1) λn=>ldI .i64 3 (n) λa=>br (x2 == 9223372036854775807) (br (a != -1) (fn 159 [.pointer (some x0),.int .i64 a]<|uT λ_=>K (.bool true))<|br (x2 == 9223372036854775807) (K (.bool true))<|br (a == -1) (ldL 75 (x0.add 0) λc d e=>ldA 191 (b) λo=>sm (Instr.buildSlice 75 1 (Array.mk [(0,.agg (.mk o))]))<|uL λp q r=>sB 75 (x0.add 0) (.slice c d e)<|sm (Builtin.append_ (Array.mk [75,75]) 75 (Array.mk [.slice c d e,.slice p q r]))<|uL λs t u=>st 75 (x0.add 0) (.slice s t u)<|ldL 75 (x0.add 0) λ_ v _=>fn 262 [.pointer (some x0),.int .i64 (w64 ((v:Int)-1))]<|uT λ_=>K (.bool true))<|ldL 75 (x0.add 0) λw x y=>ldA 191 (b) λz=>ix 75 (.slice w x y) (a) λA=>st 191 (A) (.agg (.mk z))<|fn 242 [.pointer (some x0),.int .i64 a]<|uT λ_=>K (.bool true))<|br (x2 == 9223372036854775807) (K (.bool true))<|br (a == -1) (ldL 75 (x0.add 0) λf g h=>ldA 191 (b) λB=>sm (Instr.buildSlice 75 1 (Array.mk [(0,.agg (.mk B))]))<|uL λC D E=>sB 75 (x0.add 0) (.slice f g h)<|sm (Builtin.append_ (Array.mk [75,75]) 75 (Array.mk [.slice f g h,.slice C D E]))<|uL λF G H=>st 75 (x0.add 0) (.slice F G H)<|ldL 75 (x0.add 0) λ_ I _=>fn 262 [.pointer (some x0),.int .i64 (w64 ((I:Int)-1))]<|uT λ_=>K (.bool true))<|ldL 75 (x0.add 0) λJ L M=>ldA 191 (b) λN=>ix 75 (.slice J L M) (a) λO=>st 191 (O) (.agg (.mk N))<|fn 242 [.pointer (some x0),.int .i64 a]<|uT λ_=>K (.bool true)
theorem f166 {x0:Addr} {x1 x2:Int} (h:s166 x0 x1 x2 K cs):fn 166 [.pointer (some x0),.int .i64 x1,.int .i64 x2] K cs:=fO (an:=⟨[],[]⟩) Tryz.func166 h
@[reducible] def s173 (x0:List Value) (x1:List Value) (K:Value→SP):SP:=
 box 191 (.agg (.mk x0)) λa=>box 191 (.agg (.mk x1)) λb=>ldI .i64 2 (a.add 0) λe=>ldI .i64 2 (b.add 0) λf=>ldI .i64 3 (a.add 1) λc=>ldI .i64 3 (b.add 1) λd=>fn 268 [.int .i64 e,.int .i64 f]<|uI .i64 λg=>sB 3 (b.add 1) (.int .i64 d)<|sB 3 (a.add 1) (.int .i64 c)<|fn 269 [.int .i64 c,.int .i64 d]<|uI .i64 λh=>sm (Instr.buildSlice 34 2 (Array.mk [(0,.int .i64 g),(1,.int .i64 h)]))<|uL λi j k=>fn 267 [.slice i j k]<|uI .i64 λl=>K (.int .i64 l)
theorem f173 {x0 x1:List Value} (h:s173 x0 x1 K cs):fn 173 [.agg (.mk x0),.agg (.mk x1)] K cs:=fO (an:=⟨[],[]⟩) Tryz.func173 h
@[reducible] def s241 (x0:Addr) (x1:Int) (x2:List Value) (K:Value→SP):SP:=
 box 191 (.agg (.mk x2)) λa=>ldL 75 (x0.add 0) λb c d=>ldA 191 (a) λe=>ix 75 (.slice b c d) (x1) λf=>st 191 (f) (.agg (.mk e))<|ldL 34 (x0.add 1) λg h i=>ldI .i64 3 (a.add 1) λj=>ix 34 (.slice g h i) (j) λk=>st 3 (k) (.int .i64 x1)<|K (undef)
theorem f241 {x0:Addr} {x1:Int} {x2:List Value} (h:s241 x0 x1 x2 K cs):fn 241 [.pointer (some x0),.int .i64 x1,.agg (.mk x2)] K cs:=fO (an:=⟨[],[]⟩) Tryz.func241 h
@[reducible] def s242 (x0:Addr) (x1:Int) (K:Value→SP):SP:=
 ldL 75 (x0.add 0) λa b c=>ix 75 (.slice a b c) (x1) λd=>ldI .i64 3 (d.add 1) λe=>fn 262 [.pointer (some x0),.int .i64 x1]<|uT λ_=>ldL 34 (x0.add 1) λf g h=>ix 34 (.slice f g h) (e) λi=>ldI .i64 3 (i) λj=>fn 330 [.pointer (some x0),.int .i64 j]<|uT λ_=>K (undef)
theorem f242 {x0:Addr} {x1:Int} (h:s242 x0 x1 K cs):fn 242 [.pointer (some x0),.int .i64 x1] K cs:=fO (an:=⟨[],[]⟩) Tryz.func242 h
@[reducible] def s258 (x0:Addr) (x1:Int) (K:Value→SP):SP:=
 Jn (λ_=>ldL 34 (x0.add 1) λa b c=>ix 34 (.slice a b c) (x1) λd=>ldI .i64 3 (d) λe=>fn 159 [.pointer (some x0),.int .i64 e]<|uT λ_=>K (.bool true))<|λf=>fn 261 [.pointer (some x0),.int .i64 x1]<|uB λg=>br (!g) (K (.bool false))<|ldL 34 (x0.add 1) λh i j=>ix 34 (.slice h i j) (x1) λk=>ldI .i64 3 (k) λl=>br (l == -1) (K (.bool false))<|f []
theorem f258 {x0:Addr} {x1:Int} (h:s258 x0 x1 K cs):fn 258 [.pointer (some x0),.int .i64 x1] K cs:=fO (an:=⟨[],[(3,[])]⟩) Tryz.func258 h
@[reducible] def s261 (x0:Addr) (x1:Int) (K:Value→SP):SP:=
 br (decide (x1≥0)) (ldL 34 (x0.add 1) λ_ a _=>K (.bool (decide (x1<(a:Int)))))<|K (.bool false)
theorem f261 {x0:Addr} {x1:Int} (h:s261 x0 x1 K cs):fn 261 [.pointer (some x0),.int .i64 x1] K cs:=fO (an:=⟨[],[]⟩) Tryz.func261 h
@[reducible] def s262 (x0:Addr) (x1:Int) (K:Value→SP):SP:=
 ldL 75 (x0.add 0) λc d e=>ix 75 (.slice c d e) (x1) λf=>ldA 191 (f) λg=>new 191 λb=>st 191 (b) (.agg (.mk g))<|Lp (λh i=>unI .i64 (i.headD undef) λa=>br (decide (a>0)) (ldL 75 (x0.add 0) λj k l=>ix 75 (.slice j k l) (w64 ((w64 (a-1)).tdiv 2)) λm=>ldA 191 (m) λn=>ldA 191 (b) λo=>fn 173 [.agg (.mk n),.agg (.mk o)]<|uI .i64 λp=>br (decide (p≤0)) (ldA 191 (b) λq=>fn 241 [.pointer (some x0),.int .i64 a,.agg (.mk q)]<|uT λ_=>K (undef))<|ldL 75 (x0.add 0) λr s t=>ix 75 (.slice r s t) (w64 ((w64 (a-1)).tdiv 2)) λu=>ldA 191 (u) λv=>fn 241 [.pointer (some x0),.int .i64 a,.agg (.mk v)]<|uT λ_=>h [.int .i64 (w64 ((w64 (a-1)).tdiv 2))])<|ldA 191 (b) λw=>fn 241 [.pointer (some x0),.int .i64 a,.agg (.mk w)]<|uT λ_=>K (undef)) [.int .i64 x1]
theorem f262 {x0:Addr} {x1:Int} (h:s262 x0 x1 K cs):fn 262 [.pointer (some x0),.int .i64 x1] K cs:=fO (an:=⟨[(1,[(1,.int .i64)])],[]⟩) Tryz.func262 h
@[reducible] def s330 (x0:Addr) (x1:Int) (K:Value→SP):SP:=
 ldL 75 (x0.add 0) λe f g=>ix 75 (.slice e f g) (x1) λh=>ldA 191 (h) λi=>new 191 λb=>st 191 (b) (.agg (.mk i))<|Lp (λj k=>unI .i64 (k.headD undef) λa=>ldL 75 (x0.add 0) λ_ l _=>br (decide (w64 (w64 (2*a)+1)≥(l:Int))) (ldA 191 (b) λm=>fn 241 [.pointer (some x0),.int .i64 a,.agg (.mk m)]<|uT λ_=>K (undef))<|Jn (λn=>unI .i64 (n.headD undef) λc=>ldA 191 (b) λo=>ldL 75 (x0.add 0) λp q r=>ix 75 (.slice p q r) (c) λs=>ldA 191 (s) λt=>fn 173 [.agg (.mk o),.agg (.mk t)]<|uI .i64 λu=>br (decide (u≤0)) (ldA 191 (b) λv=>fn 241 [.pointer (some x0),.int .i64 a,.agg (.mk v)]<|uT λ_=>K (undef))<|ldL 75 (x0.add 0) λw x y=>ix 75 (.slice w x y) (c) λz=>ldA 191 (z) λA=>fn 241 [.pointer (some x0),.int .i64 a,.agg (.mk A)]<|uT λ_=>j [.int .i64 c])<|λd=>ldL 75 (x0.add 0) λ_ B _=>br (decide (w64 (w64 (w64 (2*a)+1)+1)<(B:Int))) (ldL 75 (x0.add 0) λC D E=>ix 75 (.slice C D E) (w64 (w64 (w64 (2*a)+1)+1)) λF=>ldA 191 (F) λG=>ldL 75 (x0.add 0) λH I J=>ix 75 (.slice H I J) (w64 (w64 (2*a)+1)) λL=>ldA 191 (L) λM=>fn 173 [.agg (.mk G),.agg (.mk M)]<|uI .i64 λN=>br (decide (N<0)) (d [.int .i64 (w64 (w64 (w64 (2*a)+1)+1))])<|d [.int .i64 (w64 (w64 (2*a)+1))])<|d [.int .i64 (w64 (w64 (2*a)+1))]) [.int .i64 x1]
theorem f330 {x0:Addr} {x1:Int} (h:s330 x0 x1 K cs):fn 330 [.pointer (some x0),.int .i64 x1] K cs:=fO (an:=⟨[(1,[(1,.int .i64)])],[(5,[(5,.int .i64)])]⟩) Tryz.func330 h
@[reducible] def s80 (x0:Int) (x1:Int) (K:Value→SP):SP:=
 fn 138 [.int .i64 x0]<|uP λa=>fn 139 [.int .i64 x0,.int .i64 x1]<|uP λb=>box 264 (.agg (.mk [.pointer a,.pointer b,.int .i64 (-1),.int .i64 0])) λc=>K (.pointer (some c))
theorem f80 {x0 x1:Int} (h:s80 x0 x1 K cs):fn 80 [.int .i64 x0,.int .i64 x1] K cs:=fO (an:=⟨[],[]⟩) Tryz.func80 h
@[reducible] def s160 (x0:Addr) (K:Value→SP):SP:=
 Jn (λ_=>ldP 259 (x0.add 0) λc=>fn 244 [.pointer c]<|uT λb=>gI .i64 b 0 λa=>gB b 1 λd=>br (!d) (K (.tuple (Array.mk [.int .i64 0,.bool false])))<|st 3 (x0.add 2) (.int .i64 a)<|ldI .i64 3 (x0.add 3) λe=>st 3 (x0.add 3) (.int .i64 (w64 (e+1)))<|ldP 261 (x0.add 1) λf=>fn 245 [.pointer f,.int .i64 a]<|uI .i64 λ_=>K (.tuple (Array.mk [.int .i64 a,.bool true])))<|λg=>fn 243 [.pointer (some x0)]<|uB λh=>br (h) (K (.tuple (Array.mk [.int .i64 0,.bool false])))<|g []
theorem f160 {x0:Addr} (h:s160 x0 K cs):fn 160 [.pointer (some x0)] K cs:=fO (an:=⟨[],[(3,[])]⟩) Tryz.func160 h
@[reducible] def s162 (x0:Addr) (x1:Int) (K:Value→SP):SP:=
 fn 243 [.pointer (some x0)]<|uB λa=>br (a) (ldP 261 (x0.add 1) λb=>ldI .i64 3 (x0.add 2) λc=>fn 247 [.pointer b,.int .i64 c,.int .i64 x1]<|uB λd=>K (.bool d))<|K (.bool false)
theorem f162 {x0:Addr} {x1:Int} (h:s162 x0 x1 K cs):fn 162 [.pointer (some x0),.int .i64 x1] K cs:=fO (an:=⟨[],[]⟩) Tryz.func162 h
@[reducible] def s165 (x0:Addr) (x1:Bool) (K:Value→SP):SP:=
 fn 243 [.pointer (some x0)]<|uB λb=>br (!b) (K (.bool false))<|ldI .i64 3 (x0.add 2) λa=>st 3 (x0.add 2) (.int .i64 (-1))<|br (x1) (ldP 259 (x0.add 0) λc=>fn 259 [.pointer c,.int .i64 a]<|uB λd=>K (.bool d))<|ldP 261 (x0.add 1) λe=>fn 260 [.pointer e,.int .i64 a]<|uI .i64 λ_=>K (.bool true)
theorem f165 {x0:Addr} {x1:Bool} (h:s165 x0 x1 K cs):fn 165 [.pointer (some x0),.bool x1] K cs:=fO (an:=⟨[],[]⟩) Tryz.func165 h
@[reducible] def s234 (x0:Addr) (x1:Int) (K:Value→SP):SP:=
 fn 243 [.pointer (some x0)]<|uB λa=>br (a) (ldI .i64 3 (x0.add 2) λb=>br (b == x1) (K (.bool false))<|ldP 259 (x0.add 0) λc=>fn 259 [.pointer c,.int .i64 x1]<|uB λd=>K (.bool d))<|ldP 259 (x0.add 0) λe=>fn 259 [.pointer e,.int .i64 x1]<|uB λf=>K (.bool f)
theorem f234 {x0:Addr} {x1:Int} (h:s234 x0 x1 K cs):fn 234 [.pointer (some x0),.int .i64 x1] K cs:=fO (an:=⟨[],[]⟩) Tryz.func234 h
@[reducible] def s243 (x0:Addr) (K:Value→SP):SP:=
 ldI .i64 3 (x0.add 2) λa=>K (.bool (a != -1))
theorem f243 {x0:Addr} (h:s243 x0 K cs):fn 243 [.pointer (some x0)] K cs:=fO (an:=⟨[],[]⟩) Tryz.func243 h
@[reducible] def s257 (x0:Addr) (x1:Int) (K:Value→SP):SP:=
 Jn (λ_=>ldP 259 (x0.add 0) λb=>fn 338 [.pointer b,.int .i64 x1]<|uB λc=>br (!c) (K (.bool false))<|ldP 261 (x0.add 1) λd=>fn 260 [.pointer d,.int .i64 x1]<|uI .i64 λ_=>K (.bool true))<|λa=>fn 243 [.pointer (some x0)]<|uB λe=>br (e) (ldI .i64 3 (x0.add 2) λf=>br (f == x1) (fn 165 [.pointer (some x0),.bool false]<|uB λg=>K (.bool g))<|a [])<|a []
theorem f257 {x0:Addr} {x1:Int} (h:s257 x0 x1 K cs):fn 257 [.pointer (some x0),.int .i64 x1] K cs:=fO (an:=⟨[],[(3,[])]⟩) Tryz.func257 h
@[reducible] def s79 (x0:Int) (K:Value→SP):SP:=
 sm (Instr.makeSlice 34 (.int .i64 (if 1024<if 1>x0 then 1 else x0 then 1024 else if 1>x0 then 1 else x0)) (.int .i64 (if 1024<if 1>x0 then 1 else x0 then 1024 else if 1>x0 then 1 else x0)))<|uL λc d e=>sm (Instr.makeMap 88 none)<|uM λf=>box 258 (.agg (.mk [.slice c d e,.map f,.int .i64 0])) λa=>ldL 34 (a.add 0) λ_ g _=>Lp (λh i=>unI .i64 (i.headD undef) λb=>br (decide (b<(g:Int))) (ldL 34 (a.add 0) λj k l=>ix 34 (.slice j k l) (b) λm=>st 3 (m) (.int .i64 (-1))<|h [.int .i64 (w64 (b+1))])<|K (.pointer (some a))) [.int .i64 0]
theorem f79 {x0:Int} (h:s79 x0 K cs):fn 79 [.int .i64 x0] K cs:=fO (an:=⟨[(3,[(17,.int .i64)])],[]⟩) Tryz.func79 h
@[reducible] def s98 (x0:Addr) (K:Value→SP):SP:=
 ldM 88 (x0.add 1) λa=>fn 169 [.map a]<|uV λb=>fn 168 [b]<|uL λc d e=>K (.slice c d e)
theorem f98 {x0:Addr} (h:s98 x0 K cs):fn 98 [.pointer (some x0)] K cs:=fO (an:=⟨[],[]⟩) Tryz.func98 h
@[reducible] def s147 (x0:Addr) (K:Value→SP):SP:=
 Jn (λ_=>ldI .i64 3 (x0.add 2) λa=>st 3 (x0.add 2) (.int .i64 (w64 (a+1)))<|ldI .i64 3 (x0.add 2) λb=>K (.int .i64 (w64 (b-1))))<|λc=>ldI .i64 3 (x0.add 2) λd=>br (decide (d≥4096)) (K (.int .i64 (-1)))<|c []
theorem f147 {x0:Addr} (h:s147 x0 K cs):fn 147 [.pointer (some x0)] K cs:=fO (an:=⟨[],[(3,[])]⟩) Tryz.func147 h
@[reducible] def s148 (x0:Addr) (K:Value→SP):SP:=
 Jn (λ_=>ldL 34 (x0.add 0) λc d e=>fn 227 [.slice c d e,.int .i64 (-1)]<|uI .i64 λa=>ldI .i64 3 (x0.add 2) λb=>ldI .i64 3 (x0.add 2) λf=>st 3 (x0.add 2) (.int .i64 (w64 (f+1)))<|ldL 34 (x0.add 0) λg h i=>ix 34 (.slice g h i) (a) λj=>st 3 (j) (.int .i64 b)<|ldM 88 (x0.add 1) λk=>sm (do Instr.mapUpdate 88 (.map k) (.int .i64 b) (.int .i64 a);pure undef) λ_=>K (.tuple (Array.mk [.int .i64 b,.int .i64 a,.bool true])))<|λl=>ldI .i64 3 (x0.add 2) λm=>br (decide (m≥4096)) (K (.tuple (Array.mk [.int .i64 0,.int .i64 0,.bool false])))<|ldM 88 (x0.add 1) λn=>qy (Builtin.len_ (Array.mk [88]) 3 (Array.mk [.map n]))<|uI .i64 λo=>ldL 34 (x0.add 0) λ_ p _=>br (o == (p:Int)) (K (.tuple (Array.mk [.int .i64 0,.int .i64 0,.bool false])))<|l []
theorem f148 {x0:Addr} (h:s148 x0 K cs):fn 148 [.pointer (some x0)] K cs:=fO (an:=⟨[],[(3,[])]⟩) Tryz.func148 h
@[reducible] def s225 (x0:Addr) (K:Value→SP):SP:=
 ldI .i64 3 (x0.add 2) λa=>K (.int .i64 a)
theorem f225 {x0:Addr} (h:s225 x0 K cs):fn 225 [.pointer (some x0)] K cs:=fO (an:=⟨[],[]⟩) Tryz.func225 h
@[reducible] def s226 (x0:Addr) (K:Value→SP):SP:=
 ldL 34 (x0.add 0) λ_ a _=>ldM 88 (x0.add 1) λb=>qy (Builtin.len_ (Array.mk [88]) 3 (Array.mk [.map b]))<|uI .i64 λc=>K (.int .i64 (w64 ((a:Int)-c)))
theorem f226 {x0:Addr} (h:s226 x0 K cs):fn 226 [.pointer (some x0)] K cs:=fO (an:=⟨[],[]⟩) Tryz.func226 h
@[reducible] def s235 (x0:Addr) (x1:Int) (K:Value→SP):SP:=
 ldM 88 (x0.add 1) λb=>qy (Instr.lookup 88 (.map b) (.int .i64 x1) true)<|uT λa=>gI .i64 a 0 λc=>gB a 1 λd=>K (.tuple (Array.mk [.int .i64 c,.bool d]))
theorem f235 {x0:Addr} {x1:Int} (h:s235 x0 x1 K cs):fn 235 [.pointer (some x0),.int .i64 x1] K cs:=fO (an:=⟨[],[]⟩) Tryz.func235 h
@[reducible] def s256 (x0:Addr) (x1:Int) (K:Value→SP):SP:=
 fn 235 [.pointer (some x0),.int .i64 x1]<|uT λb=>gI .i64 b 0 λc=>gB b 1 λa=>br (a) (ldL 34 (x0.add 0) λd e f=>ix 34 (.slice d e f) (c) λg=>st 3 (g) (.int .i64 (-1))<|ldM 88 (x0.add 1) λh=>sm (Builtin.delete_ (Array.mk [88,3]) 0 (Array.mk [.map h,.int .i64 x1]))<|uV λ_=>K (.bool a))<|K (.bool a)
theorem f256 {x0:Addr} {x1:Int} (h:s256 x0 x1 K cs):fn 256 [.pointer (some x0),.int .i64 x1] K cs:=fO (an:=⟨[],[]⟩) Tryz.func256 h
@[reducible] def s150 (K:Value→SP):SP:=
 box 365 (.agg (.mk [.slice none 0 0,.int .i64 0,.int .i64 0,.int .i64 0,.int .i64 0,.bool false])) λa=>K (.pointer (some a))
theorem f150 (h:s150 K cs):fn 150 [] K cs:=fO (an:=⟨[],[]⟩) Tryz.func150 h
@[reducible] def s153 (x0:Addr) (x1:ByteArray) (x2:Bool) (K:Value→SP):SP:=
 Jn (λ_=>Jn (λ_=>ldI .i64 3 (x0.add 2) λb=>st 3 (x0.add 2) (.int .i64 (w64 (b+(x1.size:Int))))<|ldI .i64 3 (x0.add 3) λc=>st 3 (x0.add 3) (.int .i64 (w64 (c+(x1.size:Int))))<|st 4 (x0.add 5) (.bool x2)<|K (.bool true))<|λa=>br (!x1.toList == (bs []).toList) (ldL 144 (x0.add 0) λd e f=>sm (Instr.buildSlice 144 1 (Array.mk [(0,.string x1)]))<|uL λg h i=>sm (Builtin.append_ (Array.mk [144,144]) 144 (Array.mk [.slice d e f,.slice g h i]))<|uL λj k l=>st 144 (x0.add 0) (.slice j k l)<|a [])<|a [])<|λm=>ldB 4 (x0.add 5) λn=>br (n) (K (.bool false))<|br (decide ((x1.size:Int)>4096)) (K (.bool false))<|m []
theorem f153 {x0:Addr} {x1:ByteArray} {x2:Bool} (h:s153 x0 x1 x2 K cs):fn 153 [.pointer (some x0),.string x1,.bool x2] K cs:=fO (an:=⟨[],[(3,[]),(5,[])]⟩) Tryz.func153 h
@[reducible] def s178 (x0:Addr) (K:Value→SP):SP:=
 ldI .i64 3 (x0.add 2) λa=>K (.int .i64 a)
theorem f178 {x0:Addr} (h:s178 x0 K cs):fn 178 [.pointer (some x0)] K cs:=fO (an:=⟨[],[]⟩) Tryz.func178 h
@[reducible] def s179 (x0:Addr) (K:Value→SP):SP:=
 ldB 4 (x0.add 5) λa=>K (.bool a)
theorem f179 {x0:Addr} (h:s179 x0 K cs):fn 179 [.pointer (some x0)] K cs:=fO (an:=⟨[],[]⟩) Tryz.func179 h
@[reducible] def s181 (x0:Addr) (x1:Int) (K:Value→SP):SP:=
 ldI .i64 3 (x0.add 2) λa=>fn 271 [.pointer (some x0),.int .i64 (if a<if 0>x1 then 0 else x1 then a else if 0>x1 then 0 else x1)]<|uS λb=>fn 272 [.pointer (some x0),.int .i64 (if a<if 0>x1 then 0 else x1 then a else if 0>x1 then 0 else x1)]<|uT λ_=>ldI .i64 3 (x0.add 4) λc=>st 3 (x0.add 4) (.int .i64 (w64 (c+if a<if 0>x1 then 0 else x1 then a else if 0>x1 then 0 else x1)))<|K (.string b)
theorem f181 {x0:Addr} {x1:Int} (h:s181 x0 x1 K cs):fn 181 [.pointer (some x0),.int .i64 x1] K cs:=fO (an:=⟨[],[]⟩) Tryz.func181 h
@[reducible] def s238 (x0:Addr) (K:Value→SP):SP:=
 ldB 4 (x0.add 5) λa=>br (a) (ldI .i64 3 (x0.add 2) λb=>K (.bool (b == 0)))<|K (.bool false)
theorem f238 {x0:Addr} (h:s238 x0 K cs):fn 238 [.pointer (some x0)] K cs:=fO (an:=⟨[],[]⟩) Tryz.func238 h
@[reducible] def s255 (x0:Addr) (K:Value→SP):SP:=
 ldI .i64 3 (x0.add 2) λa=>st 144 (x0.add 0) (.slice none 0 0)<|st 3 (x0.add 1) (.int .i64 0)<|st 3 (x0.add 2) (.int .i64 0)<|st 4 (x0.add 5) (.bool true)<|K (.int .i64 a)
theorem f255 {x0:Addr} (h:s255 x0 K cs):fn 255 [.pointer (some x0)] K cs:=fO (an:=⟨[],[]⟩) Tryz.func255 h
@[reducible] def s271 (x0:Addr) (x1:Int) (K:Value→SP):SP:=
 new 112 λd=>ldI .i64 3 (x0.add 1) λg=>Lp (λh b=>unI .i64 (b.headD undef) λa=>unI .i64 (b.tail.headD undef) λi=>unI .i64 (b.tail.tail.headD undef) λe=>br (decide (a>0)) (ldL 144 (x0.add 0) λj k l=>ix 144 (.slice j k l) (e) λm=>ldS 9 (m) λn=>qy (Instr.sliceAt 9 (.string n) (some (.int .i64 i)) none none)<|uS λc=>qy (Instr.sliceAt 9 (.string c) none (some (.int .i64 (if(c.size:Int)<a then(c.size:Int)else a))) none)<|uS λf=>fn 50 [.pointer (some d),.string f]<|uT λ_=>h [.int .i64 (w64 (a-(f.size:Int))),.int .i64 0,.int .i64 (w64 (e+1))])<|fn 51 [.pointer (some d)]<|uS λo=>K (.string o)) [.int .i64 x1,.int .i64 g,.int .i64 0]
theorem f271 {x0:Addr} {x1:Int} (h:s271 x0 x1 K cs):fn 271 [.pointer (some x0),.int .i64 x1] K cs:=fO (an:=⟨[(4,[(1,.int .i64),(6,.int .i64),(7,.int .i64)])],[]⟩) Tryz.func271 h
@[reducible] def s272 (x0:Addr) (x1:Int) (K:Value→SP):SP:=
 ldI .i64 3 (x0.add 2) λe=>st 3 (x0.add 2) (.int .i64 (w64 (e-x1)))<|Lp (λd f=>unI .i64 (f.headD undef) λa=>br (decide (a>0)) (ldL 144 (x0.add 0) λg h i=>ix 144 (.slice g h i) (0) λj=>ldS 9 (j) λb=>ldI .i64 3 (x0.add 1) λc=>ldI .i64 3 (x0.add 1) λk=>st 3 (x0.add 1) (.int .i64 (w64 (k+if w64 ((b.size:Int)-c)<a then w64 ((b.size:Int)-c)else a)))<|ldI .i64 3 (x0.add 1) λl=>ldL 144 (x0.add 0) λm n o=>ix 144 (.slice m n o) (0) λp=>ldS 9 (p) λq=>br (l == (q.size:Int)) (ldL 144 (x0.add 0) λr s t=>qy (Instr.sliceAt 144 (.slice r s t) (some (.int .i64 1)) none none)<|uL λu v w=>st 144 (x0.add 0) (.slice u v w)<|st 3 (x0.add 1) (.int .i64 0)<|d [.int .i64 (w64 (a-if w64 ((b.size:Int)-c)<a then w64 ((b.size:Int)-c)else a))])<|d [.int .i64 (w64 (a-if w64 ((b.size:Int)-c)<a then w64 ((b.size:Int)-c)else a))])<|K (undef)) [.int .i64 x1]
theorem f272 {x0:Addr} {x1:Int} (h:s272 x0 x1 K cs):fn 272 [.pointer (some x0),.int .i64 x1] K cs:=fO (an:=⟨[(1,[(1,.int .i64)])],[]⟩) Tryz.func272 h
end Go.Proofs.YtbjlfobjngogkaaGreatDoor
namespace Go.Proofs.YtbjlfobjngogkaaGreatDoor
open Go
set_option synthInstance.maxSize 100000
set_option synthInstance.maxHeartbeats 1000000
set_option maxRecDepth 100000
theorem nev:never=9223372036854775807:=rfl
theorem keq {K:Value→SP} {v v':Value} {cs:St} (h:K v cs) (e:v'=v):K v' cs:=e▸h
class Ints (k:IntKind) (c:List Value) (l:outParam (List Int)):Prop where
 h:c=List.map (Value.int k) l
instance {k:IntKind}:Ints k [] []:=⟨rfl⟩
instance {k:IntKind} {n:Int} {c:List Value} {l:List Int} [i:Ints k c l]:Ints k (.int k n::c) (n::l):=⟨by rw [i.h];rfl⟩
section
variable {cs:St} {K:Value→SP}
instance c145 {x:Int}:Go1 (fn 145 [.int .i64 x] K cs) (K (.int .i64 (own x)) cs):=⟨λh=>f145 (keq h (by unfold own;congr 1;omega))⟩
instance c228 {x:Int}:Go1 (fn 228 [.int .i64 x] K cs) (K (.int .i64 (own x)) cs):=⟨λh=>f228 (by unfold s228;exact go h)⟩
instance c85 {t d:Int}:Go1 (fn 85 [.int .i64 t,.int .i64 d] K cs) ((t≤never∧d≤never)∧K (.int .i64 (tadd t d)) cs):=⟨λh=>f85 (by
 obtain⟨⟨ht,hd⟩,h⟩:=h;unfold s85;refine go ?_;have e1:w64 (9223372036854775807-own d)=9223372036854775807-own d:=zad (by have:=nev;unfold own;omega);rw [e1];refine⟨λhc=>keq h ?_,λhc=>keq h ?_⟩
 ·simp only [JD]at hc;simp [tadd,hc]
 ·simp only [JB]at hc;have e2:w64 (own t+own d)=own t+own d:=zad (by have:=nev;unfold own at *;omega);simp [tadd,hc,e2])⟩
instance c158 {t d:Int}:Go1 (fn 158 [.int .i64 t,.int .i64 d] K cs) (K (.bool (tdue t d)) cs):=⟨λh=>f158 (by
 unfold s158;refine go ?_;refine⟨λhc=>keq h ?_,λhc=>keq h ?_⟩ <;>simp_all [tdue])⟩
instance c340 {b n m:Nat} {T:TypeId} {c:List Value} {l:List Int} [r:RdB cs b T c] [i:Ints .i64 c l]:Go1 (fn 340 [.slice (some (ad b 0)) n m] K cs) ((n=l.length∧n≤9223372036854775806)∧K (.int .i64 (zjc l)) cs):=⟨λh=>f340 (by
 obtain⟨⟨rfl,hlen⟩,h⟩:=h;have r2:RdB cs b T (List.map (Value.int .i64) l):=⟨by rw [←i.h];exact r.h⟩;refine lp (λx:Int×Nat=>[.int .i64 x.1,.int .i64 x.2]) (λ_=>cs) (λx=>x.2≤l.length∧x.1=(l.take x.2).foldl (λm t=>min m (own t)) never) (λx=>l.length-x.2) (never,0) rfl (Imp.refl _) (by simp) ?_;rintro⟨acc,i⟩ ⟨hi,hacc⟩;dsimp only at *;refine go ?_;simp only [JD,JB];refine⟨λhc=>⟨by omega,by omega,((l.take (i+1)).foldl (λm t=>min m (own t)) never,i+1),?_,Imp.refl _,⟨by simp only;omega,rfl⟩,by simp only;omega⟩,λhc=>keq h ?_⟩
 ·have hlt:i<l.length:=by omega
  simp only [JE,JZ hlt,Qa,Ji,QT,←hacc,JA,JC hlt,Qd];rw [zad (by omega)];simp only [List.cons.injEq,Value.int.injEq,true_and,and_true];constructor
  ·omega
  ·omega
 ·have:i=l.length:=by omega
  subst this;rw [hacc,QS];rfl)⟩
abbrev suC (s:Setup):List Value:=[.int .i64 s.live,.int .i64 s.ring,.int .i64 s.win,.int .i64 s.out,.int .i64 s.quantum,.int .i64 s.visits]
instance c211 {a b:Int}:Go1 (fn 211 [.int .i64 a,.int .i64 b] K cs) (K (.bool (inn a b)) cs):=⟨λh=>f211 (by
 unfold s211;refine go ?_;refine⟨λhc=>keq h ?_,λhc=>keq h ?_⟩ <;>simp_all [inn] <;>omega)⟩
instance c132 {s:Setup}:Go1 (fn 132 [.agg ⟨suC s⟩] K cs) (K (.bool (good s)) cs):=⟨λh=>up0 (f132 (by
 unfold s132;refine goj ?_;intro b;refine⟨λ_=>⟨λ_=>⟨λ_=>⟨λ_=>⟨λ_=> ?_,λ_=> ?_⟩,λ_=> ?_⟩,λ_=> ?_⟩,λ_=> ?_⟩,λ_=> ?_⟩ <;>(refine fin (keq h ?_);simp_all [good])))⟩
instance c68 {s:Setup}:Go1 (fn 68 [.agg ⟨suC s⟩] K cs) (K (.bool (good s)) cs):=⟨λh=>up0 (f68 (by
 unfold s68;refine go ?_;intro b;exact fin h))⟩
instance c336 {a b:Int}:Go1 (fn 336 [.int .i64 a,.int .i64 b] K cs) (K (.int .i64 (some' a b)) cs):=⟨λh=>f336 (keq h (by unfold some';congr 1;omega))⟩
instance c251 {s:Setup} {k a b:Int}:Go1 (fn 251 [.agg ⟨suC s⟩,.int .i64 k,.int .i64 a,.int .i64 b] K cs) (K (.int .i64 (price s k a b)) cs):=⟨λh=>up0 (f251 (by
 unfold s251;refine goj ?_;intro x;simp only [Jc,Jd,JL,ne_eq,Jl];have bnd:good s=true→(1≤s.win∧s.win≤4096)∧(1≤s.out∧s.out≤4096):=by
  intro hg;simp [good,inn]at hg;omega
 refine⟨λhg=>fin (keq h (by simp [price,hg])),λhg=>⟨λhk=>fin (keq h ?_),λhk=>⟨λhk1=>fin (keq h ?_),λhk1=>fin (keq h ?_)⟩⟩⟩
 ·have hb:=bnd hg;have e1:w64 (some' a s.win+some' b s.win)=some' a s.win+some' b s.win:=zad (by unfold some';omega);rw [e1,zad (by unfold some';omega)];simp only [price,hg,hk,if_true];simp only [Bool.true_eq_false,if_false,Value.int.injEq,true_and];omega
 ·have hb:=bnd hg;rw [zad (by unfold some';omega)];simp [price,hg,hk1]
 ·simp [price,hg,hk,hk1]))⟩
abbrev duC (d:Due):List Value:=[.int .i64 d.til,.int .i64 d.lim,.int .i64 d.cut]
instance:ZeT 306 (.agg ⟨[.int .i64 0,.int .i64 0,.int .i64 0]⟩):=⟨by kernel_rfl⟩
instance c322 {a b:Int}:Go1 (fn 322 [.int .i64 a,.int .i64 b] K cs) ((a≤never∧b≤never)∧K (.int .i64 (behind a b)) cs):=⟨λh=>f322 (by
 unfold s322;refine go ?_;refine⟨λhc=>keq h.2 ?_,λhc=>⟨h.1,keq h.2 ?_⟩⟩ <;>simp_all [behind])⟩
instance c229 {a b:Int}:Go1 (fn 229 [.int .i64 a,.int .i64 b] K cs) ((a≤never∧b≤never)∧K (.agg ⟨duC (Due.begin a b)⟩) cs):=⟨λh=>up0 (f229 (by
 unfold s229;refine go ?_;intro x;exact⟨h.1,fin h.2⟩))⟩
instance c323 {d:Due}:Go1 (fn 323 [.agg ⟨duC d⟩] K cs) (K (.agg ⟨duC d.rest⟩) cs):=⟨λh=>up0 (f323 (by
 unfold s323;refine go ?_;intro x y;exact fin h))⟩
instance c326 {d:Due} {a b:Int}:Go1 (fn 326 [.agg ⟨duC d⟩,.int .i64 a,.int .i64 b] K cs) ((a≤never∧b≤never)∧K (.agg ⟨duC (d.wait a b)⟩) cs):=⟨λh=>up0 (f326 (by
 unfold s326;refine go ?_;intro x y;exact⟨h.1,fin h.2⟩))⟩
instance c327 {d:Due} {a:Int}:Go1 (fn 327 [.agg ⟨duC d⟩,.int .i64 a] K cs) (K (.agg ⟨duC (d.cuts a)⟩) cs):=⟨λh=>up0 (f327 (by
 unfold s327;refine go ?_;intro x y;refine⟨by omega,λb=>⟨by simp,fin h⟩⟩))⟩
instance c263 {d:Due}:Go1 (fn 263 [.agg ⟨duC d⟩] K cs) (K (.int .i64 d.first) cs):=⟨λh=>up0 (f263 (by
 unfold s263;refine go ?_;intro x;refine⟨by omega,λb=>⟨by simp,fin h⟩⟩))⟩
instance c333 {d:Due} {a:Int}:Go1 (fn 333 [.agg ⟨duC d⟩,.int .i64 a] K cs) (K (.tuple ⟨[.int .i64 (d.over a).1,.bool (d.over a).2]⟩) cs):=⟨λh=>up0 (f333 (by
 unfold s333;refine go ?_;intro x;simp only [JD,JB]
 repeat' (first | apply And.intro | intro _)
 all_goals (refine fin (keq h ?_);simp_all [Due.over])
 all_goals (rw [if_neg (λhh=>by have:=hh.1;omega)];simp)))⟩
instance c335 {d:Due} {a:Int}:Go1 (fn 335 [.agg ⟨duC d⟩,.int .i64 a] K cs) (K (.bool (d.woken a)) cs):=⟨λh=>up0 (f335 (by
 unfold s335;refine go ?_;intro x;exact fin h))⟩
end
abbrev wv (s:Nat):List Value:=List.map (Value.int .u64) (wI s)
theorem zzr (b:Nat) (h:b<256):IntKind.wrap .u8 (Int.tdiv (b:Int) 64)=((b / 64:Nat):Int):=by
 rw [zpm,Int.tdiv_eq_ediv_of_nonneg (by omega)];omega
theorem zzq (b:Nat):Int.tmod (b:Int) 64=((b % 64:Nat):Int):=by
 rw [Int.tmod_eq_emod_of_nonneg (by omega)];omega
instance tkW {s:Nat}:Tk (List.map (Value.int .u64) (wI s)) 4 (wv s):=⟨[],by simp,rfl⟩
instance onesW {s:Nat}:Ones (List.map (Value.int .u64) (wI s)):=⟨λu hu=>by obtain⟨n,_,rfl⟩:=Jt.1 hu;rfl⟩
instance lenW {s:Nat}:Len (List.map (Value.int .u64) (wI s)) 4:=⟨rfl⟩
instance layW {s:Nat} {a b c d:Value}:Lay [a,b,c,d] 0 (List.map (Value.int .u64) (wI s)) (wv s):=⟨rfl,by simp [zi9]⟩
instance layWW {s t:Nat}:Lay (List.map (Value.int .u64) (wI t)) 0 (List.map (Value.int .u64) (wI s)) (wv s):=⟨rfl,by simp [zi9]⟩
theorem z2m (s:Nat) {i:Nat} (h:i<4):BitVec.ofInt 64 ((wI s).getD i 0)=BitVec.ofInt 64 ((wN s i:Nat):Int):=by rw [zkz s h]
theorem zuz {k:Nat} (h:k<64):IntKind.wrap .u64 (1*2 ^ min ((k:Int)).toNat 64)=((2 ^ k:Nat):Int):=by
 rw [JE,Nat.min_eq_left (by omega),Int.one_mul]
 have:(2:Int) ^ k=((2 ^ k:Nat):Int):=by norm_cast
 rw [this];exact za2 (Nat.pow_lt_pow_right (by decide) h)
theorem zd9 {k:Nat} (h:k<64):2 ^ k<18446744073709551616:=Nat.pow_lt_pow_right (a:=2) (by decide) h
theorem wv0:wv 0=[.int .u64 0,.int .u64 0,.int .u64 0,.int .u64 0]:=by simp only [wv,wI,Jf,Qb];rfl
section
variable {cs:St} {K:Value→SP}
instance c477 {s b:Nat}:Go1 (fn 477 [.agg ⟨wv s⟩,.int .u8 (b:Int)] K cs) (b<256∧K (.agg ⟨wv (sWith s b)⟩) cs):=⟨λh=>up0 (f477 (by
 obtain⟨hb,h⟩:=h;unfold s477;refine go λb1 b2=> ?_;have h1:b % 64<64:=Nat.mod_lt _ (by decide);rw [zzr b hb,zzq b,Nat.zero_add,JE,z2m s (by omega),zuz h1,uor (wN_lt _ _) (zd9 h1),z0l s b hb];refine go ?_;refine⟨by omega,by rw [zi9];omega,by omega,by omega,by rw [zi9];omega,fin h⟩))⟩
theorem w8 {n:Nat} (h:n<256):IntKind.wrap .u8 (n:Int)=(n:Int):=by rw [zpm];omega
instance c467 {a b:Nat}:Go1 (fn 467 [.int .u8 (a:Int),.int .u8 (b:Int)] K cs) ((a<256∧b<256)∧K (.agg ⟨wv (sSpan a b)⟩) cs):=⟨λh=>up0 (f467 (by
 obtain⟨⟨ha,hb⟩,h⟩:=h;unfold s467;refine go λb1 b2=> ?_;have ea:w64 (a:Int)=a:=zad (by omega);have eb:w64 (b:Int)=b:=zad (by omega);rw [ea,eb];refine lp (λk:Nat=>[.int .i64 (a+k:Nat)]) (λk=>bk b2 412 (wv (sFrom 0 a k))::bk b1 412 (wv 0)::cs) (λk=>k≤b+1-a) (λk=>b+1-a-k) 0 rfl (by rw [show sFrom 0 a 0=0 from rfl,wv0];exact drp) (JJ _) ?_;intro k hk;dsimp only;refine go ?_;simp only [JD,JB];refine⟨λhc=> ?_,λhc=> ?_⟩
 ·rw [w8 (by omega)];refine go ⟨by omega,?_⟩;refine⟨k+1,by rw [zad (by omega)];rfl,?_,by omega,by omega⟩;rw [zsx];exact drp
 ·have e:k=b+1-a:=by omega
  subst e;exact fin h))⟩
instance c455 {a b:Nat}:Go1 (fn 455 [.int .u8 (a:Int),.int .u8 (b:Int)] K cs) ((a<256∧b<256)∧K (.agg ⟨wv (sSpan a b)⟩) cs):=⟨λh=>up0 (f455 (by
 unfold s455;exact go λb1=>⟨h.1,fin h.2⟩))⟩
theorem bit1 {n:Nat}:(IntKind.wrap .u64 ((BitVec.ofInt 64 (n:Int)&&&BitVec.ofInt 64 1).toNat:Int) == 1)=(n % 2 == 1):=by
 have e:BitVec.ofInt 64 1=BitVec.ofNat 64 1:=rfl;rw [zkm,e,BitVec.toNat_and,BitVec.toNat_ofNat,BitVec.toNat_ofNat,Nat.and_one_is_mod,zl3,Bool.eq_iff_iff];simp only [Jd];omega
instance c461 {s b:Nat}:Go1 (fn 461 [.agg ⟨wv s⟩,.int .u8 (b:Int)] K cs) (b<256∧K (.bool (sHas s b)) cs):=⟨λh=>up0 (f461 (by
 obtain⟨hb,h⟩:=h;unfold s461;refine go λb1=> ?_;have h1:b % 64<64:=Nat.mod_lt _ (by decide);rw [zzr b hb,zzq b,Nat.zero_add,JE,zkz s (by omega)];have e:((wN s (b / 64):Nat):Int).fdiv (2 ^ min ((b % 64:Nat):Int).toNat 64)=((wN s (b / 64) / 2 ^ (b % 64):Nat):Int):=by
  have hp:(2:Int) ^ (b % 64)=((2 ^ (b % 64):Nat):Int):=by norm_cast
  rw [JE,Nat.min_eq_left (by omega),hp,Int.fdiv_eq_ediv_of_nonneg _ (Int.natCast_nonneg _)];exact(Int.natCast_ediv _ _).symm
 rw [e,bit1,zue];exact⟨by omega,by rw [zi9];omega,by omega,fin h⟩))⟩
instance c444 {s b:Nat}:Go1 (fn 444 [.agg ⟨wv s⟩,.int .u8 (b:Int)] K cs) (b<256∧K (.bool (sHas s b)) cs):=⟨λh=>up0 (f444 (by
 unfold s444;exact go λb1=>⟨h.1,fin h.2⟩))⟩
theorem zpx {l:List Int} {i:Nat} (h:i<l.length) (x:Int):(l.set i x).getD i 0=x:=by
 rw [JA,QR h];rfl
theorem zzk {l:List Int} {s:Nat} (hl:l.length=4) (h:∀i,i<4→l.getD i 0=(wN s i:Nat)):l=wI s:=by
 apply List.ext_getElem (by rw [hl,zi9]);intro i h1 h2;have h3:=h i (by omega);have h4:=zkz s (i:=i) (by omega);rw [JA,JC h1]at h3;rw [JA,JC h2]at h4;exact h3.trans h4.symm
instance c482 {s:Nat}:Go1 (fn 482 [.agg ⟨wv s⟩] K cs) (K (.agg ⟨wv (sNot s)⟩) cs):=⟨λh=>up0 (f482 (by
 unfold s482;refine go λb1 b2=> ?_;refine lp (λk:Nat×List Int=>[.int .i64 k.1]) (λk=>bk b2 412 (wv 0)::bk b1 412 (List.map (Value.int .u64) k.2)::cs) (λk=>k.1≤4∧k.2.length=4∧(∀i,i<k.1→k.2.getD i 0=(wN (sNot s) i:Nat))∧∀i,k.1≤i→i<4→k.2.getD i 0=(wN s i:Nat)) (λk=>4-k.1) (0,wI s) rfl (by rw [wv0];exact drp)
  ⟨JJ _,rfl,λi hi=>absurd hi (Nat.not_lt_zero _),λi _ hi=>zkz s hi⟩ ?_
 rintro⟨k,l⟩ ⟨i1,i2,i3,i4⟩;dsimp only at *;refine go ?_;simp only [JD,JB,Nat.zero_add,JE];refine⟨λhc=> ?_,λhc=> ?_⟩
 ·refine⟨by omega,by omega,by omega,by omega,(k+1,l.set k (wN (sNot s) k:Nat)),by rw [zad (by omega)];rfl,?_,⟨by simp only;omega,by simp [i2],λi hi=> ?_,λi h1 h2=> ?_⟩,by simp only;omega⟩
  ·have e:=uxor (x:=18446744073709551615) (by decide) (wN_lt s k);rw [←z2k s (by omega)]at e;rw [i4 k (JG _) (by omega)];have e2:((18446744073709551615:Nat):Int)=18446744073709551615:=rfl;rw [e2]at e;rw [e];exact drp
  ·by_cases he:i=k
   ·subst he;exact zpx (by omega) _
   ·rw [JA,JS (by omega),←JA];exact i3 i (by simp only at hi;omega)
  ·rw [JA,JS (by simp only at h1;omega),←JA];exact i4 i (by simp only at h1;omega) h2
 ·have hk:k=4:=by omega
  subst hk;have e:l=wI (sNot s):=zzk i2 i3;subst e;refine go ?_;exact fin h))⟩
instance c481 {s t:Nat}:Go1 (fn 481 [.agg ⟨wv s⟩,.agg ⟨wv t⟩] K cs) (K (.agg ⟨wv (sOr s t)⟩) cs):=⟨λh=>up0 (f481 (by
 unfold s481;refine go λb1 b0 b2=> ?_;refine lp (λk:Nat×List Int=>[.int .i64 k.1]) (λk=>bk b2 412 (wv 0)::bk b0 412 (wv t)::bk b1 412 (List.map (Value.int .u64) k.2)::cs) (λk=>k.1≤4∧k.2.length=4∧(∀i,i<k.1→k.2.getD i 0=(wN (sOr s t) i:Nat))∧∀i,k.1≤i→i<4→k.2.getD i 0=(wN s i:Nat)) (λk=>4-k.1) (0,wI s) rfl (by rw [wv0];exact drp)
  ⟨JJ _,rfl,λi hi=>absurd hi (Nat.not_lt_zero _),λi _ hi=>zkz s hi⟩ ?_
 rintro⟨k,l⟩ ⟨i1,i2,i3,i4⟩;dsimp only at *;refine go ?_;simp only [JD,JB,Nat.zero_add,JE];refine⟨λhc=> ?_,λhc=> ?_⟩
 ·refine⟨by omega,by omega,by omega,by rw [zi9];omega,by omega,by omega,(k+1,l.set k (wN (sOr s t) k:Nat)),by rw [zad (by omega)];rfl,?_,⟨by simp only;omega,by simp [i2],λi hi=> ?_,λi h1 h2=> ?_⟩,by simp only;omega⟩
  ·rw [i4 k (JG _) (by omega),zkz t (by omega),uor (wN_lt _ _) (wN_lt _ _),←wN_or];exact drp
  ·by_cases he:i=k
   ·subst he;exact zpx (by omega) _
   ·rw [JA,JS (by omega),←JA];exact i3 i (by simp only at hi;omega)
  ·rw [JA,JS (by simp only at h1;omega),←JA];exact i4 i (by simp only at h1;omega) h2
 ·have hk:k=4:=by omega
  subst hk;have e:l=wI (sOr s t):=zzk i2 i3;subst e;refine go ?_;exact fin h))⟩
end
def rdC (b:Nat) (x:ByteArray×Int×Int):Chunk:=bk b 560 [.string x.1,.int .i64 x.2.1,.int .i64 x.2.2]
theorem zjp (s:ByteArray) (k:Nat):sat s k=(cAt (bl s) k:Nat):=by
 unfold sat cAt bl;rw [JE];simp
section
variable {cs:St} {b k:Nat} {s:ByteArray} {e:Int} {put:Chunk→St} {K:Value→SP}
instance rdRd {n:Int} [o:Ob rdC cs b (s,n,e) put]:RdB cs b 560 [.string s,.int .i64 n,.int .i64 e]:=⟨by
 obtain⟨i,h,_⟩:=o.h;exact Rd.in h (by simp [rdC,bk])⟩
instance rdSt1 {n m:Int} {K:SP} [o:Ob rdC cs b (s,n,e) put]:Go1 (st 3 ((ad b 0).add 1) (.int .i64 m) K cs) (K (put (rdC b (s,m,e)))):=⟨λh=>by
 obtain⟨i,h1,h2⟩:=o.h;rw [zbd];refine st_wr (l:=[.int .i64 m]) rfl (by simp [one]) (by kernel_rfl) ⟨i,560,_,h1,by simp,rfl⟩ ?_;rw [h2]at h;exact h⟩
instance rdSt2 {n m:Int} {K:SP} [o:Ob rdC cs b (s,n,e) put]:Go1 (st 57 ((ad b 0).add 2) (.int .i64 m) K cs) (K (put (rdC b (s,n,m)))):=⟨λh=>by
 obtain⟨i,h1,h2⟩:=o.h;rw [zbd];refine st_wr (l:=[.int .i64 m]) rfl (by simp [one]) (by kernel_rfl) ⟨i,560,_,h1,by simp,rfl⟩ ?_;rw [h2]at h;exact h⟩
instance c478 [o:Ob rdC cs b (s,(k:Int),e) put] {x:Int}:Go1 (fn 478 [.pointer (some (ad b 0)),.int .u8 x] K cs) (K (.bool (isAt (bl s) k x)) cs):=⟨λh=>f478 (by
 unfold s478;refine go ⟨λh1=> ?_,λh1=> ?_⟩
 ·simp only [JD]at h1;refine⟨by omega,keq h ?_⟩;rw [zjp,isAt,zac]
  have:k<s.size:=by omega
  simp [this]
 ·simp only [JB]at h1;refine keq h ?_;rw [isAt,zac]
  have:¬k<s.size:=by omega
  simp [this])⟩
instance c479 [o:Ob rdC cs b (s,(k:Int),e) put]:Go1 (fn 479 [.pointer (some (ad b 0))] K cs) (K undef (put (rdC b (s,if k≥s.size then((s.size:Int),3)else((k:Int),2))))):=⟨λh=>o.fn1 (bk b 560 [.string s,.int .i64 k,.int .i64 e]) rfl λF=>f479 (by
 unfold s479;refine go ⟨λh1=> ?_,λh1=> ?_⟩
 ·simp only [ge_iff_le,JD]at h1
  have:k≥s.size:=by omega
  rw [if_pos this]at h;simp only [rdC]at h;exact⟨_,drp,h⟩
 ·simp only [ge_iff_le,JB]at h1
  have:¬k≥s.size:=by omega
  rw [if_neg this]at h;simp only [rdC]at h;exact⟨_,drp,h⟩)⟩
theorem zri (s:ByteArray) {k:Nat} (h:k+1<9223372036854775808):sat s (w64 (w64 ((k:Int)+1)-1))=(cAt (bl s) k:Nat):=by
 have e1:w64 ((k:Int)+1)=((k+1:Nat):Int):=by rw [zad (by omega)];rfl
 have e2:w64 (((k+1:Nat):Int)-1)=(k:Nat):=by rw [zad (by omega)];omega
 rw [e1,e2,zjp]
def signR (s:List UInt8) (k:Nat):Nat×Int×Int:=match rSign s k with
 | .error (p,e)=>(0,p,e)
 | .ok (d,j)=>(d,j,0)
instance c488 [o:Ob rdC cs b (s,(k:Int),0) put]:Go1 (fn 488 [.pointer (some (ad b 0))] K cs)
  ((k≤s.size∧s.size≤1000000000000)∧K (.int .u8 (signR (bl s) k).1) (put (rdC b (s,(signR (bl s) k).2)))):=⟨λh=>o.fn1 (rdC b (s,k,0)) rfl λF=>f488 (by
 obtain⟨⟨h1,h2⟩,h⟩:=h;unfold s488;have e0:=zri s (k:=k) (by omega);have e1:w64 ((k:Int)+1)=((k+1:Nat):Int):=by rw [zad (by omega)];rfl
 have e2:=zri s (k:=k+1) (by omega);have e3:w64 (((k+1:Nat):Int)+1)=((k+2:Nat):Int):=by rw [zad (by omega)];rfl
 rw [e1]at e0;refine goj ?_;rw [e1];refine goj ?_;rw [e0,e2,e3];simp only [ge_iff_le,JD,JB];have w1:w64 (((k+2:Nat):Int)-1)=((k+1:Nat):Int):=by rw [zad (by omega)];omega
 have w2:w64 (((k+1:Nat):Int)-1)=(k:Nat):=by rw [zad (by omega)];omega
 rw [w1,w2];refine⟨λc1=>⟨λc2=> ?_,λc2=>⟨by omega,?_⟩⟩,λc1=>⟨λc2=> ?_,λc2=>⟨λc3=> ?_,λc3=>⟨λc4=> ?_,λc4=>⟨by omega,?_⟩⟩⟩⟩⟩
 ·have g:k+1≥s.size:=by omega
  simp only [signR,rSign,c1,if_true,zac,g]at h;rw [if_pos (by omega)];exact⟨_,drp,h⟩
 ·have g:¬k+1≥s.size:=by omega
  simp only [signR,rSign,c1,if_true,zac,g,if_false]at h;exact⟨_,drp,h⟩
 ·have g:k≥s.size:=by omega
  simp only [signR,rSign,c1,QA,if_false,if_true,zac,g]at h;rw [if_pos (by omega)];exact⟨_,drp,h⟩
 ·have g:¬k≥s.size:=by omega
  simp only [signR,rSign,c1,c3,QA,if_false,if_true,zac,g,if_false]at h;rw [if_neg (by omega)];exact⟨_,drp,h⟩
 ·have g:¬k≥s.size:=by omega
  simp only [signR,rSign,c1,c3,c4,QA,if_false,if_true,zac,g,if_false]at h;rw [if_neg (by omega)];exact⟨_,drp,h⟩
 ·have g:¬k≥s.size:=by omega
  simp only [signR,rSign,c1,c3,c4,QA,if_false,zac,g,if_false]at h;exact⟨_,drp,h⟩)⟩
def partE (s:List UInt8) (k:Nat):Int×Int:=match rPart s k with
 | .error (p,e)=>(p,e)
 | .ok (_,j)=>(j,0)
instance c480 [o:Ob rdC cs b (s,(k:Int),0) put]:Go1 (fn 480 [.pointer (some (ad b 0))] K cs)
  ((k≤s.size∧s.size≤1000000000000)∧∀x,(x<2 ^ 256∧∀y j,rPart (bl s) k= .ok (y,j)→x=y)→K (.agg ⟨wv x⟩) (put (rdC b (s,partE (bl s) k)))):=⟨λh=>o.fn1 (rdC b (s,k,0)) rfl λF=>f480 (by
 obtain⟨⟨h1,h2⟩,h⟩:=h;unfold s480;refine goj λb1=>⟨⟨h1,h2⟩,?_⟩;cases hs:rSign (bl s) k with
 | error pe=>
  have e1:signR (bl s) k=(0,(pe.1:Int),pe.2):=by simp only [signR,hs]
  have e2:partE (bl s) k=((pe.1:Int),pe.2):=by simp only [partE,rPart,hs]
  have e3:=(zgv hs).2.1;rw [e1];rw [e2]at h;dsimp only;have e4:(pe.2 != 0)=true:=by simpa using e3
  simp only [e4,true_implies,Bool.true_eq_false,false_implies,and_true];exact⟨by decide,_,drp,h _ ⟨zcd (by decide),λy j hy=>by simp [rPart,hs]at hy⟩⟩
 | ok aj=>
  obtain⟨a,j⟩:=aj;have e1:signR (bl s) k=(a,(j:Int),0):=by simp only [signR,hs]
  obtain⟨g1,g2,g3⟩:=zgu hs;rw [zac]at g2;rw [e1];dsimp only;refine goj ?_;simp only [bne_self_eq_false,QA,false_implies,true_and,true_implies];cases hd:isAt (bl s) j 45 with
  | false=>
   simp only [Bool.not_false,true_implies,Bool.true_eq_false,false_implies,and_true];have e2:rPart (bl s) k= .ok (sSpan a a,j):=by simp only [rPart,hs,hd,QA,if_false]
   have e3:partE (bl s) k=((j:Int),0):=by simp only [partE,e2]
   rw [e3]at h;exact⟨⟨g3,g3⟩,_,drp,h _ ⟨zcd g3,λy j hy=>by rw [e2]at hy;cases hy;rfl⟩⟩
  | true=>
   simp only [Bool.not_true,true_implies,QA,false_implies,true_and];have hj:=zka hd;rw [zac]at hj;have w1:w64 ((j:Int)+1)=((j+1:Nat):Int):=by rw [zad (by omega)];rfl
   rw [w1];refine goj ⟨⟨by omega,h2⟩,?_⟩;cases hs2:rSign (bl s) (j+1)with
   | error pe=>
    have e1:signR (bl s) (j+1)=(0,(pe.1:Int),pe.2):=by simp only [signR,hs2]
    have e4:rPart (bl s) k= .error pe:=by simp only [rPart,hs,hd,if_true,hs2]
    have e2:partE (bl s) k=((pe.1:Int),pe.2):=by simp only [partE,e4]
    have e3:=(zgv hs2).2.1;rw [e1];rw [e2]at h;dsimp only;have e5:(pe.2 == 0)=false:=by simpa using e3
    simp only [e5,QA,false_implies,true_implies,true_and];exact⟨⟨g3,by decide⟩,_,drp,h _ ⟨zcd (by decide),λy j hy=>by rw [e4]at hy;cases hy⟩⟩
   | ok di=>
    obtain⟨d,i⟩:=di;have e1:signR (bl s) (j+1)=(d,(i:Int),0):=by simp only [signR,hs2]
    obtain⟨g4,g5,g6⟩:=zgu hs2;rw [zac]at g5;rw [e1];dsimp only;refine goj ?_;simp only [beq_self_eq_true,true_implies,Bool.true_eq_false,false_implies,and_true,JD,JB];have w2:w64 ((i:Int)-1)=((i-1:Nat):Int):=by rw [zad (by omega)];omega
    rw [w2];refine⟨λc1=>⟨⟨g3,g6⟩,?_⟩,λc1=>⟨⟨g3,g6⟩,?_⟩⟩
    ·have e4:rPart (bl s) k= .error (i-1,12):=by
      have:d<a:=by omega
      simp only [rPart,hs,hd,if_true,hs2,this]
     have e2:partE (bl s) k=(((i-1:Nat):Int),12):=by simp only [partE,e4]
     rw [e2]at h;exact⟨_,drp,h _ ⟨zcd g6,λy j hy=>by rw [e4]at hy;cases hy⟩⟩
    ·have e4:rPart (bl s) k= .ok (sSpan a d,i):=by
      have:¬d<a:=by omega
      simp only [rPart,hs,hd,if_true,hs2,this,if_false]
     have e2:partE (bl s) k=((i:Int),0):=by simp only [partE,e4]
     rw [e2]at h;exact⟨_,drp,h _ ⟨zcd g6,λy j hy=>by rw [e4]at hy;cases hy;rfl⟩⟩)⟩
instance bz412:BdZ 412 (wv 0):=⟨by rw [wv0];kernel_rfl⟩
def rTail (s:List UInt8) (k:Nat):Res Nat:=match rPart s k with
 | .error e=> .error e
 | .ok (x,j)=>rRest s (s.length+1) x j
theorem zmk {s:List UInt8}:∀(f x k:Nat) {r:Res Nat},rRest s f x k=r→k≤s.length→s.length+1≤f+k→x<2 ^ 256→match r with
  | .error (p,e)=>p≤s.length∧e≠0
  | .ok (y,j)=>k≤j∧j<s.length∧y<2 ^ 256
 | 0,x,k,r,_,hk,hf,_=>by omega
 | f+1,x,k,r,h,hk,hf,hx=>by
  unfold rRest at h;split at h
  ·rename_i h93
   have:=zka h93
   subst h;exact⟨JG _,this,hx⟩
  ·split at h
   ·rename_i e he;subst h;obtain⟨p,e⟩:=e;exact zgw he
   ·rename_i y j hy;obtain⟨g1,g2,g3⟩:=zis hy
    have:=zmk f (sOr x y) j h g2 (by omega) (zuc hx g3)
    split at this
    ·exact this
    ·exact⟨by omega,this.2.1,this.2.2⟩
def zzi (s:List UInt8) (k0:Nat) (a:Nat×Nat×Int×Nat):Prop:=
 a.1<2 ^ 256∧((a.2.2.1≠0∧rTail s k0= .error (a.2.1,a.2.2.1))∨(a.2.2.1=0∧a.2.1≤s.length∧s.length+1≤a.2.2.2+a.2.1∧rRest s a.2.2.2 a.1 a.2.1=rTail s k0))
theorem z0j {s:List UInt8} {k0 x:Nat} (hx:x<2 ^ 256∧∀y j,rPart s k0= .ok (y,j)→x=y):∃(p:Nat) (e:Int) (f:Nat),partE s k0=((p:Int),e)∧zzi s k0 (x,p,e,f):=by
 cases hp:rPart s k0 with
 | error pe=>
  obtain⟨p,e⟩:=pe;exact⟨p,e,0,by simp only [partE,hp],hx.1,.inl ⟨(zgw hp).2,by simp only [rTail,hp]⟩⟩
 | ok yj=>
  obtain⟨y,j⟩:=yj;have e1:=hx.2 y j hp;subst e1;exact⟨j,0,s.length+1,by simp only [partE,hp],hx.1,.inr ⟨rfl,(zis hp).2.1,by simp only;omega,by simp only [rTail,hp]⟩⟩
def zep (s:List UInt8):Int×Int:=match zdo s with
 | .error (p,e)=>(p,e)
 | .ok (_,j)=>(j,0)
instance c468 [o:Ob rdC cs b (s,0,0) put]:Go1 (fn 468 [.pointer (some (ad b 0))] K cs)
  (s.size≤1000000000000∧∀x,(x<2 ^ 256∧∀y j,zdo (bl s)= .ok (y,j)→x=y)→K (.agg ⟨wv x⟩) (put (rdC b (s,zep (bl s))))):=⟨λh=>o.fn1 (rdC b (s,((0:Nat):Int),0)) rfl λF=>f468 (by
 obtain⟨h2,h⟩:=h;unfold s468;refine go ?_;intro b1;cases h0:isAt (bl s) 0 91 with
 | false=>
  simp only [Bool.not_false,true_implies,Bool.true_eq_false,false_implies,and_true];have e1:zep (bl s)=if 0≥s.size then((s.size:Int),3)else(((0:Nat):Int),2):=by
   simp only [zep,zdo,h0,QA,if_false,zac];by_cases hz:s.size=0
   ·simp [hz]
   ·have hz2:¬0≥s.size:=by omega
    simp only [hz,hz2,if_false]
  have e2:∀y j,zdo (bl s)= .ok (y,j)→0=y:=by
   intro y j hy;simp only [zdo,h0,QA,if_false]at hy;split at hy <;>cases hy
  rw [←e1];exact⟨_,drp,h 0 ⟨by decide,e2⟩⟩
 | true=>
  simp only [Bool.not_true,true_implies,QA,false_implies,true_and];have hpos:=zka h0;rw [zac]at hpos;have w1:w64 (((0:Nat):Int)+1)=((1:Nat):Int):=rfl;rw [w1];refine go ?_;have hk0:1≤(if isAt (bl s) 1 94=true then 2 else 1)∧(if isAt (bl s) 1 94=true then 2 else 1)≤s.size:=by
   split
   ·rename_i hc
    have:=zka hc
    rw [zac]at this;omega
   ·omega
  have hw:zdo (bl s)=match rTail (bl s) (if isAt (bl s) 1 94=true then 2 else 1)with
    | .error e=> .error e
    | .ok (y,i)=> .ok (if isAt (bl s) 1 94 then sNot y else y,i+1):=by
   simp only [zdo,h0,if_true,rTail];cases rPart (bl s) (if isAt (bl s) 1 94=true then 2 else 1) <;>rfl
  refine⟨λl c=>Imp c (bk b1 412 (wv 0)::rdC b (s,((if isAt (bl s) 1 94 then 2 else 1:Nat):Int),0)::F),λl c hc=>⟨_,hc,?_⟩,?_⟩
  ·generalize (if isAt (bl s) 1 94=true then 2 else 1)=k0 at hk0 hw ⊢;refine go ⟨⟨hk0.2,h2⟩,λx hx b2=> ?_⟩;refine⟨λl c=>∃(y p:Nat) (e:Int),Imp c (bk b2 412 (wv y)::bk b1 412 (wv 0)::rdC b (s,(p:Int),e)::F)∧y<2 ^ 256∧((e≠0∧rTail (bl s) k0= .error (p,e))∨(e=0∧rTail (bl s) k0= .ok (y,p)∧p<s.size)),?_,?_⟩
   ·rintro l c ⟨y,p,e,hi,hy,hh⟩;refine⟨_,hi,?_⟩;refine goj ?_;rcases hh with ⟨he,hr⟩ | ⟨rfl,hr,hp⟩
    ·rw [hr]at hw;have e1:zep (bl s)=((p:Int),e):=by simp only [zep,hw]
     rw [e1]at h;refine⟨λ_=>⟨_,drp,h 0 ⟨by decide,λy j hy=>by rw [hw]at hy;cases hy⟩⟩,λhc=> ?_⟩;simp only [QC]at hc;exact absurd hc he
    ·rw [hr]at hw;have w2:w64 ((p:Int)+1)=((p+1:Nat):Int):=by rw [zad (by omega)];rfl
     have e1:zep (bl s)=(((p+1:Nat):Int),0):=by simp only [zep,hw]
     rw [e1]at h;rw [w2];refine⟨λhc=>absurd hc (by decide),λ_=>⟨λhc=> ?_,λhc=> ?_⟩⟩
     ·exact⟨_,drp,h _ ⟨zud hy,λy j hy=>by rw [hw,hc]at hy;cases hy;rfl⟩⟩
     ·exact⟨_,drp,h _ ⟨hy,λy j hy=>by rw [hw,hc]at hy;cases hy;rfl⟩⟩
   ·obtain⟨p,e,f,hpe,hI⟩:=z0j hx;rw [hpe];refine lp (λ_:Nat×Nat×Int×Nat=>[]) (λa=>bk b2 412 (wv a.1)::bk b1 412 (wv 0)::rdC b (s,((a.2.1:Nat):Int),a.2.2.1)::F) (zzi (bl s) k0) (λa=>if a.2.2.1=0 then s.size+1-a.2.1 else 0) (x,p,e,f) rfl (by dsimp only;exact drp) hI ?_;rintro⟨y,p,e,f⟩ ⟨hy,hI⟩;dsimp only at *;refine goj ?_;rw [zac]at hI;refine⟨λc0=> ?_,λc0=> ?_⟩
    ·have e0:e=0:=by simpa using c0
     subst e0;rcases hI with ⟨hI,_⟩ | ⟨_,hp1,hf,hr⟩
     ·exact absurd rfl hI
     obtain⟨f',rfl⟩:∃f',f=f'+1:=⟨f-1,by omega⟩;unfold rRest at hr;refine⟨λc1=> ?_,λc1=> ?_⟩
     ·have c2:isAt (bl s) p 93=false:=by simpa using c1
      simp only [c2,QA,if_false]at hr;refine go ⟨⟨hp1,h2⟩,λt ht=> ?_⟩;cases hp:rPart (bl s) p with
      | error pe=>
       obtain⟨p',e'⟩:=pe;have e1:partE (bl s) p=((p':Int),e'):=by simp only [partE,hp]
       have e2:=(zgw hp).2;simp only [hp]at hr;rw [e1];refine⟨(sOr y t,p',e',0),rfl,drp,⟨zuc hy ht.1,.inl ⟨e2,hr.symm⟩⟩,?_⟩;simp only [e2,if_false,if_true];omega
      | ok tj=>
       obtain⟨t',j⟩:=tj;have e1:partE (bl s) p=((j:Int),0):=by simp only [partE,hp]
       have e2:=ht.2 t' j hp;subst e2;obtain⟨g1,g2,g3⟩:=zis hp;rw [zac]at g2;simp only [hp]at hr;rw [e1];refine⟨(sOr y t,j,0,f'),rfl,drp,⟨zuc hy g3,.inr ⟨rfl,g2,?_,hr⟩⟩,?_⟩
       ·simp only [zac];omega
       ·simp only [if_true];omega
     ·have c2:isAt (bl s) p 93=true:=by simpa using c1
      simp only [c2,if_true]at hr;have g:=zka c2;rw [zac]at g;exact⟨y,p,0,drp,hy,.inr ⟨rfl,hr.symm,g⟩⟩
    ·have e0:e≠0:=by simpa using c0
     rcases hI with ⟨_,hI⟩ | ⟨hI,_⟩
     ·exact⟨y,p,e,drp,hy,.inl ⟨e0,hI⟩⟩
     ·exact absurd hI e0
  ·refine go ⟨λc=> ?_,λc=> ?_⟩
   ·simp only [c,if_true,wv0];exact Imp.refl _
   ·simp only [c,QA,if_false,wv0];exact Imp.refl _)⟩
def readV (s:List UInt8):Value:=match zdo s with
 | .error (p,e)=> .tuple ⟨[.agg ⟨wv 0⟩,.int .i64 (p:Nat),.int .i64 e]⟩
 | .ok (x,j)=> .tuple ⟨[.agg ⟨wv x⟩,.int .i64 (j:Nat),.int .i64 0]⟩
theorem zjw {s:List UInt8} {r:Res Nat} (h:zdo s=r):match r with
  | .error (p,e)=>p≤s.length∧e≠0
  | .ok (x,j)=>0<j∧j≤s.length∧x<2 ^ 256:=by
 unfold zdo at h;split at h
 ·split at h
  ·rename_i e he;subst h;exact zgw he
  ·rename_i x j hx;obtain⟨g1,g2,g3⟩:=zis hx;split at h
   ·rename_i e he;subst h;exact zmk _ _ _ he g2 (by omega) g3
   ·rename_i y i hy;subst h
    have:=zmk _ _ _ hy g2 (by omega) g3
    refine⟨by omega,by omega,?_⟩;split
    ·exact zud this.2.2
    ·exact this.2.2
 ·split at h
  ·subst h;exact⟨by omega,by decide⟩
  ·subst h;exact⟨by omega,by decide⟩
instance c456:Go1 (fn 456 [.string s] K cs) (s.size≤1000000000000∧K (readV (bl s)) cs):=⟨λh=>up0 (f456 (by
 obtain⟨h2,h⟩:=h;unfold s456;refine go λb1 b2=> ?_;refine zaj (cs':=rdC b2 (s,0,0)::bk b1 412 (wv 0)::cs) (by rw [wv0];exact Imp.refl _) ?_;cases hr:zdo (bl s)with
 | error pe=>
  obtain⟨p,e⟩:=pe;have e1:zep (bl s)=((p:Int),e):=by simp only [zep,hr]
  have e2:readV (bl s)= .tuple ⟨[.agg ⟨wv 0⟩,.int .i64 (p:Nat),.int .i64 e]⟩:=by simp only [readV,hr]
  have e3:=(zjw hr).2;rw [e2]at h;refine go ⟨h2,λx hx=> ?_⟩;rw [e1];intro b3;refine go ?_;exact⟨λhc=>absurd (by simpa using hc) e3,λ_=>fin h⟩
 | ok xj=>
  obtain⟨x,j⟩:=xj;have e1:zep (bl s)=((j:Int),0):=by simp only [zep,hr]
  have e2:readV (bl s)= .tuple ⟨[.agg ⟨wv x⟩,.int .i64 (j:Nat),.int .i64 0]⟩:=by simp only [readV,hr]
  rw [e2]at h;refine go ⟨h2,λx' hx=> ?_⟩;have e3:=hx.2 x j hr;subst e3;rw [e1];intro b3;refine go ?_;exact⟨λ_=>fin h,λhc=>(by simp at hc)⟩))⟩
end
end Go.Proofs.YtbjlfobjngogkaaGreatDoor
namespace Go.Proofs.YtbjlfobjngogkaaGreatDoor
open Go
variable {K:Value→SP} {cs:St}
@[reducible] def s50 (x0:Addr) (x1:ByteArray) (K:Value→SP):SP:=
 fn 121 [.pointer (some x0)]<|uT λ_=>ldL 110 (x0.add 1) λa b c=>sm (Builtin.append_ (Array.mk [110,9]) 110 (Array.mk [.slice a b c,.string x1]))<|uL λd e f=>st 110 (x0.add 1) (.slice d e f)<|K (.tuple (Array.mk [.int .i64 (x1.size:Int),.nilIface]))
theorem f50 {x0:Addr} {x1:ByteArray} (h:s50 x0 x1 K cs):fn 50 [.pointer (some x0),.string x1] K cs:=fO (an:=⟨[],[]⟩) Tryz.func50 h
@[reducible] def s51 (x0:Addr) (K:Value→SP):SP:=
 ldL 110 (x0.add 1) λa b c=>qy (Builtin.unsafeSliceData_ (Array.mk [110]) 221 (Array.mk [.slice a b c]))<|uP λd=>ldL 110 (x0.add 1) λ_ e _=>sm (Builtin.unsafeString_ (Array.mk [221,3]) 9 (Array.mk [.pointer d,.int .i64 (e:Int)]))<|uS λf=>K (.string f)
theorem f51 {x0:Addr} (h:s51 x0 K cs):fn 51 [.pointer (some x0)] K cs:=fO (an:=⟨[],[]⟩) Tryz.func51 h
end Go.Proofs.YtbjlfobjngogkaaGreatDoor
namespace Go.Proofs.YtbjlfobjngogkaaGreatDoor
open Go
set_option synthInstance.maxSize 100000
set_option synthInstance.maxHeartbeats 1000000
set_option maxRecDepth 100000
def zgr:Go.Shelf.Ren:=⟨λ| 240=>121 | 276=>194 | n=>n,λ| 70=>109 | 3=>3 | 0=>0 | 4=>4 | 9=>9 | 20=>20 | 72=>112 | 37=>110 | 164=>323 | n=>n,λ| n=>n⟩
theorem znw:Go.Proofs.Lays.n240 Tryz.prog zgr:={
 mixed:=by kernel_rfl
 f240:=Tryz.func121.trans (congrArg some (by kernel_rfl))
 f276:=Tryz.func194.trans (congrArg some (by kernel_rfl))
 t0:=Tryz.underlying0
 a0:=Tryz.isAgg0
 z0:=Tryz.sizeOf0
 v0:=Tryz.zeroValue0
 t4:=Tryz.underlying4
 a4:=Tryz.isAgg4
 z4:=Tryz.sizeOf4
 v4:=Tryz.zeroValue4
 t9:=Tryz.underlying9
 a9:=Tryz.isAgg9
 z9:=Tryz.sizeOf9
 v9:=Tryz.zeroValue9
 t20:=Tryz.underlying20
 a20:=Tryz.isAgg20
 z20:=Tryz.sizeOf20
 v20:=Tryz.zeroValue20
 t70:=Tryz.underlying109
 a70:=Tryz.isAgg109
 z70:=Tryz.sizeOf109
 v70:=Tryz.zeroValue109
 t72:=Tryz.underlying112
 a72:=Tryz.isAgg112
 z72:=Tryz.sizeOf112
 v72:=Tryz.zeroValue112
 t164:=Tryz.underlying323
 a164:=Tryz.isAgg323
 z164:=Tryz.sizeOf323
 v164:=Tryz.zeroValue323}
theorem shX72:Builder.X72 Tryz.prog zgr:={
 sizeBuilder:=by kernel_rfl
 liesBuilder:=by kernel_rfl}
theorem zpb:∃fn,Tryz.prog.funcs[121]? =some fn∧(fn.name == "runtime.NumGoroutine")=false∧fn.body.isNone=false:=⟨_,Tryz.func121,by kernel_rfl,by kernel_rfl⟩
section
variable {cs:St} {b:Nat} {K:Value→SP}
theorem zz1 {c:List Value} {T:TypeId} {E w:World} (h:RdB cs b T c) (hw:Hs E w cs):∃z,w.heap[b]? =some (.cells ⟨c⟩ T z):=by obtain⟨z,hz⟩:=h.h;exact⟨z,hw.holds _ hz⟩
instance {v:Value} [i:RdB cs b 112 [.pointer (some (ad b 0)),v]]:Go1 (fn 121 [.pointer (some (ad b 0))] K cs) (K undef cs):=⟨λh=>⟨zpb,λE w hw=>by
 obtain⟨z0,hb⟩:=zz1 i hw;refine(Any.Builder_copyCheck_used znw shX72 b w (by simp [World.cell?,hb])).mono ?_;rintro e w' ⟨rfl,rfl⟩;exact⟨_,cs,rfl,hw,h⟩⟩⟩
instance {v:Value} {cs':St} [i:RdB cs b 112 [.pointer none,v]] [q:Wr cs b 0 [.pointer (some (ad b 0))] cs']:Go1 (fn 121 [.pointer (some (ad b 0))] K cs) (K undef cs'):=⟨λh=>⟨zpb,λE w hw=>by
 obtain⟨z0,hb⟩:=zz1 i hw;obtain⟨iq,Tq,cq,hq1,_⟩:=q.h;have hq2:=hw.holds _ (zec hq1 (x:=(b,.cells ⟨cq⟩ Tq (0,0))) (by simp [bk]));simp only at hq2;have hz:z0=(0,0):=by rw [hb]at hq2;cases hq2;rfl
 subst hz;refine(Any.Builder_copyCheck_fresh znw shX72 b w (by simp [World.cell?,hb]) (by simp [World.shape?,hb];rfl) (by simp [World.frozen?,hb])).mono ?_;rintro e w' ⟨rfl,rfl⟩;obtain⟨j,T,c,h1,_,rfl⟩:=q.h;exact⟨_,_,rfl,hw.setCell h1 _,h⟩⟩⟩
end
abbrev bc (l:List UInt8):List Value:=l.map λx=>Value.int .u8 x.toNat
class BRow (a:Option Addr) (n c:Nat) (l:outParam (List UInt8)) (ch:outParam Chunk):Prop where
 h:(a=none∧n=0∧c=0∧l=[]∧ch=[])∨∃g tail,a=some (ad g 0)∧n=l.length∧l≠[]∧l.length+tail.length=c∧c≤9223372036854775807∧ch=bk g 5 (bc l++tail)
instance brNil:BRow none 0 0 [] []:=⟨.inl ⟨rfl,rfl,rfl,rfl,rfl⟩⟩
theorem info5:∃i,Tryz.prog.info? 5=some i∧i.zero=some (.int .u8 0)∧i.size=1∧i.bytes=1:=by
 obtain⟨i,z,_,h1,h2,h3,h4,_,_⟩:=zb0 (t:=110) (e:=5) (sz:=1) (bytes:=1) (by kernel_rfl);refine⟨i,h1,?_,h2,h3⟩
 have:=zin h1 h4
 have h5:zeroT 5=some (.int .u8 0):=by kernel_rfl
 rw [h4,←this,h5]
theorem z0h (s:ByteArray):Lib.strCells s=bc (bl s):=rfl
section
variable {cs:St} {K:Value→SP}
theorem z2h {a:Option Addr} {n c:Nat} {l:List UInt8} {ch:Chunk} {s:ByteArray} (i:Nat) (hi:cs[i]? =some ch) (hr:BRow a n c l ch) (h0:0<s.size) (hb:n+s.size≤140737488355328)
  (h:∀a' c' ch',BRow a' (n+s.size) c' (l++bl s) ch'→K (.slice a' (n+s.size) c') (cs.set i ch')):sm (Builtin.append_ ⟨[110,9]⟩ 110 ⟨[.slice a n c,.string s]⟩) K cs:=by
 obtain⟨inf,hinf,hz,hs1,hb1⟩:=info5;have hu:Tryz.prog.underlying 110=some (.slice 5):=Tryz.underlying110;have hv:Tryz.prog.underlying 9=some .string:=Tryz.underlying9;have hbl:bl s≠[]:=λe=>by have:=zac s;rw [e]at this;simp at this;omega
 refine⟨λE w hw=> ?_⟩;have grown:∀(cap:Nat),cap<n+s.size→n=l.length→∃ch',Hs E (w.drew.alloc (.cells ((bc l).toArray++(Lib.strCells s).toArray++Builtin.zeroCells (Value.int .u8 0).cells (grownCap w (n+s.size) cap 5-(n+s.size))) 5)) (cs.set i ch')∧
   BRow (some ⟨w.heap.size,0,none⟩) (n+s.size) (grownCap w (n+s.size) cap 5) (l++bl s) ch':=by
  intro cap hc hn;have hge:n+s.size≤grownCap w (n+s.size) cap 5:=by simp [grownCap,Question.cut]
  have hle:grownCap w (n+s.size) cap 5≤9223372036854775807:=by
   have hlt:=Nat.mod_lt (w.tape w.drawn (.appendCap (n+s.size) cap 5)) (show 0<2 ^ 63-(n+s.size)by omega);simp only [grownCap,Question.cut];omega
  refine⟨bk w.heap.size 5 (bc (l++bl s)++(Builtin.zeroCells (Value.int .u8 0).cells (grownCap w (n+s.size) cap 5-(n+s.size))).toList),?_,⟨.inr ⟨w.heap.size,_,rfl,by simp [hn,zac],by simp [hbl],?_,hle,rfl⟩⟩⟩
  ·have h2:=(hw.drew.alloc (.cells ((bc l).toArray++(Lib.strCells s).toArray++Builtin.zeroCells (Value.int .u8 0).cells (grownCap w (n+s.size) cap 5-(n+s.size))) 5));refine Imp.replace hi E _ ?_;have e1:((bc l).toArray++(Lib.strCells s).toArray++Builtin.zeroCells (Value.int .u8 0).cells (grownCap w (n+s.size) cap 5-(n+s.size)))=⟨bc (l++bl s)++(Builtin.zeroCells (Value.int .u8 0).cells (grownCap w (n+s.size) cap 5-(n+s.size))).toList⟩:=by
    apply Array.ext';simp [z0h,bc]
   rw [e1]at h2 ⊢;exact h2
  ·rw [zgj];show(l++bl s).length+_*1=_;rw [JH,zac,←hn];omega
 rcases hr.h with ⟨rfl,rfl,rfl,rfl,rfl⟩ | ⟨g,tail,rfl,rfl,hne,hlen,hcap,rfl⟩
 ·have hr1:=run_append_nil_string (P:=Tryz.prog) w 110 9 110 5 inf (.int .u8 0) hu hv hinf hz s h0 (by omega) (by rw [hb1];omega);obtain⟨ch',g1,g2⟩:=grown 0 (by omega) rfl;have e1:(s.data.map λb=>Value.int .u8 b.toNat)=(Lib.strCells s).toArray:=by
   apply Array.ext';simp [Lib.strCells]
  rw [e1]at hr1;simp only [Nat.zero_add,JF,Array.empty_append,Qb]at g1 g2 hr1 h;exact⟨_,_,_,hr1,g1,h _ _ _ g2⟩
 ·have hg:=hw.holds _ (zec hi (x:=(g,.cells ⟨bc l++tail⟩ 5 (0,0))) (by simp [bk]));by_cases hroom:l.length+s.size≤c
  ·have hr1:=Lib.run_append_room_string (P:=Tryz.prog) w 110 9 110 5 inf hu hv hinf hs1 g l.length c ⟨bc l++tail⟩ hg s hroom (by simp;omega);have e1:(((⟨bc l++tail⟩:Array Value).toList.take l.length++Lib.strCells s++(⟨bc l++tail⟩:Array Value).toList.drop (l.length+s.size)).toArray)=⟨bc (l++bl s)++tail.drop s.size⟩:=by
    have e2:(bc l).length=l.length:=by simp
    have e3:(bc l++tail).take l.length=bc l:=by rw [←e2,List.take_left]
    have e4:(bc l++tail).drop (l.length+s.size)=tail.drop s.size:=by rw [←e2,←Qf,List.drop_left]
    show(List.take l.length (bc l++tail)++Lib.strCells s++List.drop (l.length+s.size) (bc l++tail)).toArray=_;rw [e3,e4,z0h];simp [bc]
   rw [e1]at hr1;refine⟨_,_,cs.set i [(g,.cells ⟨bc (l++bl s)++tail.drop s.size⟩ 5 (0,0))],hr1,?_,h _ _ _ ⟨.inr ⟨g,tail.drop s.size,rfl,by simp [zac],by simp [hbl],by simp [zac];omega,hcap,rfl⟩⟩⟩;have hlt:g<w.heap.size:=by
    rcases Ju g w.heap.size with hh | hh
    ·exact hh
    ·rw [JU hh]at hg;cases hg
   refine hw.upd hi rfl rfl rfl (by simp [World.setRow]) ?_ ?_
   ·simp [World.setRow,Array.getElem?_modify,hg]
   ·intro k hk _
    have:¬g=k:=λe=>hk e.symm
    simp [World.setRow,Array.getElem?_modify,this]
  ·have hr1:=Lib.run_append_grow_string (P:=Tryz.prog) w 110 9 110 5 inf (.int .u8 0) hu hv hinf hz (ad g 0) l.length c (bc l) (by simp [hs1]) (λj v hj=>by
    have hj2:=zaa hj;rw [zbd,hw.cell hi,Nat.zero_add,JY hj2,hj]) s (by omega) (by omega) (growslice_fits (by omega) (by rw [hb1];omega))
   obtain⟨ch',g1,g2⟩:=grown c (by omega) rfl;exact⟨_,_,_,hr1,g1,h _ _ _ g2⟩
instance appStr {a:Option Addr} {n c:Nat} {l:List UInt8} {ch:Chunk} {s:ByteArray} {put:Chunk→St} [hr:BRow a n c l ch] [at_:ChAt cs ch put]:Go1 (sm (Builtin.append_ ⟨[110,9]⟩ 110 ⟨[.slice a n c,.string s]⟩) K cs)
  ((0<s.size∧n+s.size≤140737488355328)∧∀a' c' ch',BRow a' (n+s.size) c' (l++bl s) ch'→K (.slice a' (n+s.size) c') (put ch')):=⟨λ⟨⟨h1,h2⟩,h⟩=>by
 obtain⟨k,hk,hput⟩:=at_.h;exact z2h k hk hr h1 h2 λa' c' ch' hr'=>by rw [←hput];exact h a' c' ch' hr'⟩
theorem zza {a:Option Addr} {n c:Nat} {l:List UInt8} {ch:Chunk} (r:BRow a n c l ch):n=l.length:=by
 rcases r.h with ⟨_,h,_,h2,_⟩ | ⟨g,tail,_,h,_⟩
 ·rw [h,h2];rfl
 ·exact h
theorem z0u {a:Option Addr} {n c:Nat} {l:List UInt8} {ch:Chunk} (i:Nat) (hi:cs[i]? =some ch) (hr:BRow a n c l ch) (h:K (.string (sb l)) (cs.set i [])):
  sm (Builtin.unsafeString_ (Array.mk [221,3]) 9 (Array.mk [.pointer a,.int .i64 (n:Int)])) K cs:=by
 have hpart:Imp cs (ch::cs.set i []):=Imp.part (parts:=[ch]) (by simpa using hi);have him:∀E w,Hs E w cs→Hs E w (cs.set i []):=λE w hw=>(drp (c:=ch::cs.set i []) (c':=cs.set i [])) E w (hpart E w hw);rcases hr.h with ⟨rfl,rfl,rfl,rfl,rfl⟩ | ⟨g,tail,rfl,rfl,hne,hlen,hcap,rfl⟩
 ·exact⟨λE w hw=>⟨_,w,_,Lib.run_unsafeString_none w _ _ _ _,him E w hw,h⟩⟩
 ·have hl0:l.length≠0:=by simpa using hne
  refine⟨λE w hw=> ?_⟩;have hg:=hw.holds _ (zec hi (x:=(g,.cells ⟨bc l++tail⟩ 5 (0,0))) (by simp [bk]));have hr1:=Lib.run_unsafeString_row (P:=Tryz.prog) w 221 3 9 5 Tryz.underlying221 (by kernel_rfl) g (bc l++tail).length (by simp [World.shape?,hg]) l hne (by simp) (by omega) (λj x hj=>by
   have hj2:(bc l)[j]? =some (.int .u8 x.toNat):=by simp [bc,hj]
   rw [zbd,hw.cell hi,Nat.zero_add,JY (zaa hj2),hj2])
  refine⟨_,_,_,hr1,?_,h⟩;have h2:=him E w hw;have h3:=(hpart E w hw).nodup;have hnot:g∉(cs.set i []).flatten.map Prod.fst:=by
   simp only [bk,JI,JF,JV,Jf,List.nodup_cons]at h3;exact h3.1
  obtain⟨f,e1⟩:∃f,w.freeze (ad g 0) l.length={w with heap:=w.heap.modify g f}:=⟨_,by unfold World.freeze;rw [if_neg hl0]⟩;refine⟨?_,?_,?_,?_,λx hx=> ?_,h2.nodup⟩
  ·rw [e1];exact h2.os
  ·rw [e1];exact h2.out
  ·rw [e1];exact h2.tape
  ·rw [e1];simpa using h2.size
  ·have hne2:¬g=x.1:=λe=>hnot (Jt.2 ⟨x,hx,e.symm⟩);rw [e1];simp only [Array.getElem?_modify,if_neg hne2];exact h2.holds x hx
instance {a:Option Addr} {n c:Nat} {l:List UInt8} {ch:Chunk} [hr:BRow a n c l ch]:Go1 (qy (Builtin.unsafeSliceData_ (Array.mk [110]) 221 (Array.mk [.slice a n c])) K cs) (K (.pointer a) cs):=⟨λh=>by
 rcases hr.h with ⟨rfl,rfl,rfl,rfl,rfl⟩ | ⟨g,tail,rfl,rfl,hne,hlen,hcap,rfl⟩
 ·exact⟨.pointer none,λE w _=>Lib.run_unsafeSliceData_nil _ _ _ _ _,h⟩
 ·have hl0:l.length≠0:=by simpa using hne
  exact⟨.pointer (some (ad g 0)),λE w _=>Lib.run_unsafeSliceData_row _ _ _ _ _ _ (by omega),h⟩⟩
end
structure Bu where
 a:Option Addr
 n:Nat
 c:Nat
 l:List UInt8
 ch:Chunk
 r:BRow a n c l ch
 used:Bool
def buC (b:Nat) (x:Bu):Chunk:=bk b 112 [.pointer (if x.used then some (ad b 0)else none),.slice x.a x.n x.c]++x.ch
instance buRow (x:Bu):BRow x.a x.n x.c x.l x.ch:=x.r
section
variable {cs:St} {b:Nat} {x:Bu} {put:Chunk→St} {K:Value→SP}
instance c50 [o:Ob buC cs b x put] {s:ByteArray}:Go1 (fn 50 [.pointer (some (ad b 0)),.string s] K cs)
  ((0<s.size∧x.l.length+s.size≤140737488355328)∧∀x',Bu.l x'=x.l++bl s→K (.tuple ⟨[.int .i64 s.size,.nilIface]⟩) (put (buC b x'))):=⟨λh=>o.fn2 (bk b 112 [.pointer (if x.used then some (ad b 0)else none),.slice x.a x.n x.c]) x.ch rfl λF=>f50 (by
 obtain⟨⟨h1,h2⟩,h⟩:=h;have hn:=zza x.r;unfold s50;cases hu:x.used with
 | true=>
  simp only [if_true];refine go ⟨⟨h1,by omega⟩,λa' c' ch' r=> ?_⟩;have hh:=h ⟨a',_,c',_,ch',r,true⟩ rfl;simp only [buC,if_true]at hh;exact⟨_,_,drp,hh⟩
 | false=>
  simp only [QA,if_false];refine go ⟨⟨h1,by omega⟩,λa' c' ch' r=> ?_⟩;have hh:=h ⟨a',_,c',_,ch',r,true⟩ rfl;simp only [buC,if_true]at hh;exact⟨_,_,drp,hh⟩)⟩
instance c51 [o:Ob buC cs b x put]:Go1 (fn 51 [.pointer (some (ad b 0))] K cs) (K (.string (sb x.l)) (put [])):=⟨λh=>o.fn2 (bk b 112 [.pointer (if x.used then some (ad b 0)else none),.slice x.a x.n x.c]) x.ch rfl λF=>f51 (by
 unfold s51;refine go ?_;refine z0u (ch:=x.ch) 1 rfl x.r ?_;simp only [List.set_cons_succ,List.set_cons_zero];refine go ?_;exact⟨[],[],drp,h⟩)⟩
end
structure Rg where
 bb:Nat
 buf:List UInt8
 first:Nat
 n:Nat
 h0:0<buf.length
 h1:buf.length≤4096
 h2:first<buf.length
 h3:n≤buf.length
def Rg.q (r:Rg):List UInt8:=(r.buf.drop r.first++r.buf.take r.first).take r.n
def ringC (b:Nat) (r:Rg):Chunk:=bk b 380 [.slice (some (ad r.bb 0)) r.buf.length r.buf.length,.int .i64 r.first,.int .i64 r.n]++bk r.bb 5 (List.map (Value.int .u8) (nb r.buf))
theorem Rg.q_length (r:Rg):r.q.length=r.n:=by have:=r.h3;have:=r.h2;simp [Rg.q];omega
theorem z07 {l:List UInt8} {f i:Nat} (hf:f<l.length) (hi:i<l.length):(l.drop f++l.take f)[i]? =l[(f+i) % l.length]?:=by
 by_cases h:f+i<l.length
 ·rw [Nat.mod_eq_of_lt h,JY (by simp;omega),QP]
 ·rw [Jk (by simp;omega),Nat.mod_eq_sub_mod (by omega),Nat.mod_eq_of_lt (by omega),Jz (by simp;omega)];congr 1;simp;omega
theorem Rg.q_get (r:Rg) {i:Nat} (hi:i<r.n):r.q[i]? =r.buf[(r.first+i) % r.buf.length]?:=by
 unfold Rg.q;rw [Jz hi,z07 r.h2 (by have:=r.h3;omega)]
theorem Rg.q_ext {r:Rg} {l:List UInt8} (hl:l.length=r.n) (h:∀i,i<r.n→r.buf[(r.first+i) % r.buf.length]? =l[i]?):r.q=l:=by
 apply List.ext_getElem?;intro i;by_cases hi:i<r.n
 ·rw [r.q_get hi,h i hi]
 ·rw [QB (by rw [r.q_length];omega),QB (by omega)]
section
variable {cs:St} {b:Nat} {r:Rg} {put:Chunk→St} {K:Value→SP}
instance ringRd [o:Ob ringC cs b r put]:RdB cs b 380 [.slice (some (ad r.bb 0)) r.buf.length r.buf.length,.int .i64 r.first,.int .i64 r.n]:=⟨by
 obtain⟨i,h,_⟩:=o.h;exact Rd.in h (by simp [ringC,bk])⟩
instance c230 {x:Int}:Go1 (fn 230 [.int .i64 x] K cs) (∀b r,Rg.q r=[]→r.n=0→(r.buf.length:Int)=min (max x 1) 4096→K (.pointer (some (ad b 0))) (ringC b r::cs)):=⟨λh=>up0 (f230 (by
 unfold s230;have e:(if 4096<if 1>x then 1 else x then 4096 else if 1>x then 1 else x)=min (max x 1) 4096:=by omega
 rw [e];refine go ?_;refine⟨by omega,λbb b=> ?_⟩;refine fin (c':=ringC b ⟨bb,List.replicate (min (max x 1) 4096).toNat 0,0,0,by simp;omega,by simp;omega,by simp;omega,by simp⟩::cs) (i:= ?_) (h b _ (by simp [Rg.q]) rfl (by simp;omega))
 have:ringC b ⟨bb,List.replicate (min (max x 1) 4096).toNat 0,0,0,by simp;omega,by simp;omega,by simp;omega,by simp⟩ =
   bk b 380 [.slice (some (ad bb 0)) (min (max x 1) 4096).toNat (min (max x 1) 4096).toNat,.int .i64 0,.int .i64 0]++bk bb 5 (List.map (Value.int .u8) (List.replicate (min (max x 1) 4096).toNat 0)):=by
  simp [ringC,nb]
 rw [this];exact⟨[],by simp⟩))⟩
instance c248 [o:Ob ringC cs b r put]:Go1 (fn 248 [.pointer (some (ad b 0))] K cs) (K (.int .i64 r.n) cs):=⟨λh=>f248 (by unfold s248;exact go h)⟩
instance c175 [o:Ob ringC cs b r put]:Go1 (fn 175 [.pointer (some (ad b 0))] K cs) (K (.int .i64 (r.buf.length-r.n:Nat)) cs):=⟨λh=>f175 (by
 unfold s175;refine go (keq h ?_)
 have:=r.h3;have:=r.h1
 rw [zad (by omega)];congr 1;omega)⟩
instance {x:Int}:Go1 (fn 388 [.pointer (some (ad b 0)),.int .i64 x] K cs) (s388 (ad b 0) x K cs):=⟨f388⟩
instance {x:Int}:Go1 (fn 447 [.pointer (some (ad b 0)),.int .i64 x] K cs) (s447 (ad b 0) x K cs):=⟨f447⟩
theorem z08 (r:Rg) {k:Nat} (hk:k≤r.n):∃r':Rg,r'.bb=r.bb∧r'.buf=r.buf∧r'.n=r.n-k∧r'.q=r.q.drop k∧r'.first=if r.n-k=0 then 0 else(r.first+k) % r.buf.length:=by
 have h0:=r.h0;have h3:=r.h3;refine⟨⟨r.bb,r.buf,if r.n-k=0 then 0 else(r.first+k) % r.buf.length,r.n-k,r.h0,r.h1,?_,by omega⟩,rfl,rfl,rfl,?_,rfl⟩
 ·split
  ·exact h0
  ·exact Nat.mod_lt _ h0
 ·refine Rg.q_ext (by simp [Rg.q_length]) λi hi=> ?_;simp only at hi ⊢;rw [QP,Rg.q_get r (by omega),if_neg (by omega),Nat.mod_add_mod];congr 2;omega
theorem zuk (r:Rg) {k:Nat} (hk:k≤r.n):r.q.take k=if r.first+k≤r.buf.length then(r.buf.drop r.first).take k else r.buf.drop r.first++r.buf.take (r.first+k-r.buf.length):=by
 have h2:=r.h2;have h3:=r.h3;unfold Rg.q;rw [List.take_take,Nat.min_eq_left hk];split
 ·rw [List.take_append_of_le_length (by simp;omega)]
 ·rw [List.take_append,List.take_of_length_le (by simp;omega),List.take_take];congr 2;simp;omega
instance c446 [d:RdB cs b 380 [.slice (some (ad r.bb 0)) r.buf.length r.buf.length,.int .i64 r.first,.int .i64 r.n]] [e:RdB cs r.bb 5 (List.map (Value.int .u8) (nb r.buf))] {k:Nat}:
  Go1 (fn 446 [.pointer (some (ad b 0)),.int .i64 0,.int .i64 k] K cs) (k≤r.n∧K (.string (sb (r.q.take k))) cs):=⟨λ⟨hk,h⟩=>f446 (by
 unfold s446;have h0:=r.h0;have h1:=r.h1;have h2:=r.h2;have h3:=r.h3;refine goj ?_;have e1:(r.first:Int) % r.buf.length=r.first:=Int.emod_eq_of_lt (by omega) (by omega)
 have e2:w64 ((r.first:Int)+k)=(r.first:Int)+k:=zad (by omega);have e3:w64 ((r.first:Int)+0)=r.first:=by rw [zad (by omega)];omega
 have e4:w64 ((r.first:Int)+k-r.buf.length)=(r.first:Int)+k-r.buf.length:=zad (by omega);simp only [e1,e2,e3,e4,Jd,JL,JD,JB];refine⟨λc0=>keq h ?_,λc0=>⟨by omega,λc1=>⟨by omega,λo ho=>⟨by omega,keq h ?_⟩⟩,λc1=>⟨by omega,λo ho=>⟨by omega,by omega,by omega,by simp only [zp0,Jh];omega,keq h ?_⟩⟩⟩⟩
 ·have:k=0:=by omega
  subst this;rfl
 ·rw [zuk r hk,if_pos (by omega),ho (by omega)]
  have:((r.first:Int)+k).toNat-r.first=k:=by omega
  simp [this]
 ·rw [zuk r hk,if_neg (by omega),ho (by omega)]
  have:((r.first:Int)+k-r.buf.length).toNat=r.first+k-r.buf.length:=by omega
  have e5:r.buf.length-(r.first:Int).toNat=(r.buf.drop r.first).length:=by simp
  rw [this];simp only [Nat.zero_add,Nat.mul_one,JE,Jm]at e5 ⊢;rw [e5,QS];rfl)⟩
instance c431 [o:Ob ringC cs b r put] {x:Int}:Go1 (fn 431 [.pointer (some (ad b 0)),.int .i64 x] K cs)
  (∀r':Rg,r'.q=r.q.drop (min (max x 0) r.n).toNat→r'.buf.length=r.buf.length→K (.string (sb (r.q.take (min (max x 0) r.n).toNat))) (put (ringC b r'))):=⟨λh=>o.fn2 (bk b 380 _) (bk r.bb 5 _) rfl λF=>f431 (by
 unfold s431;have e:(if(r.n:Int)<if 0>x then 0 else x then(r.n:Int)else if 0>x then 0 else x)=((min (max x 0) r.n).toNat:Int):=by omega
 have hk:(min (max x 0) r.n).toNat≤r.n:=by omega
 revert h e hk
 generalize (min (max x 0) r.n).toNat=k;intro h e hk;have h0:=r.h0;have h1:=r.h1;have h2:=r.h2;have h3:=r.h3;obtain⟨r',g1,g2,g3,g4,g5⟩:=z08 r hk;have hh:=h r' g4 (by rw [g2]);refine go ?_;dsimp only;rw [e];refine go ?_;have e1:w64 ((r.first:Int)+k) % r.buf.length=((r.first+k) % r.buf.length:Nat):=by rw [zad (by omega)];push_cast;rfl
 have e2:w64 ((r.n:Int)-k)=(r.n-k:Nat):=by rw [zad (by omega)];omega
 have e3:0≤w64 ((r.first:Int)+k):=by rw [zad (by omega)];omega
 simp only [e1,e2,Jd,JL];refine⟨hk,⟨e3,by omega⟩,λc0=> ?_,λc0=> ?_⟩
 ·have:ringC b r'=bk b 380 [.slice (some (ad r.bb 0)) r.buf.length r.buf.length,.int .i64 0,.int .i64 (r.n-k:Nat)]++bk r.bb 5 (List.map (Value.int .u8) (nb r.buf)):=by
   unfold ringC;rw [g1,g2,g3,g5,if_pos (by omega)];rfl
  rw [this]at hh;exact⟨_,_,drp,hh⟩
 ·have:ringC b r'=bk b 380 [.slice (some (ad r.bb 0)) r.buf.length r.buf.length,.int .i64 ((r.first+k) % r.buf.length:Nat),.int .i64 (r.n-k:Nat)]++bk r.bb 5 (List.map (Value.int .u8) (nb r.buf)):=by
   unfold ringC;rw [g1,g2,g3,g5,if_neg (by omega)]
  rw [this]at hh;exact⟨_,_,drp,hh⟩)⟩
theorem z2s (r:Rg) (l:List UInt8) (hk:l.length≤r.buf.length-r.n) (buf':List UInt8) (hb:buf'.length=r.buf.length)
  (hg:∀j,j<r.buf.length→buf'[(r.first+j) % r.buf.length]? =if j<r.n then r.buf[(r.first+j) % r.buf.length]? else if j<r.n+l.length then l[j-r.n]? else r.buf[(r.first+j) % r.buf.length]?):
  ∃r':Rg,r'.bb=r.bb∧r'.buf=buf'∧r'.first=r.first∧r'.n=r.n+l.length∧r'.q=r.q++l:=by
 have h0:=r.h0;have h2:=r.h2;have h3:=r.h3;have h1:=r.h1;refine⟨⟨r.bb,buf',r.first,r.n+l.length,by omega,by omega,by omega,by omega⟩,rfl,rfl,rfl,rfl,?_⟩;refine Rg.q_ext (by simp [Rg.q_length]) λi hi=> ?_;simp only at hi ⊢;rw [hb,hg i (by omega)];by_cases hin:i<r.n
 ·rw [if_pos hin,JY (by rw [Rg.q_length];exact hin),Rg.q_get r hin]
 ·rw [if_neg hin,if_pos hi,Jk (by rw [Rg.q_length];omega),Rg.q_length]
theorem z1r (l:List UInt8) (n:Nat):(nb l).take n=nb (l.take n):=by simp [nb,List.map_take]
theorem z1s (l:List UInt8) (n:Nat):(nb l).drop n=nb (l.drop n):=by simp [nb,List.map_drop]
theorem zvg (l r:List UInt8):nb l++nb r=nb (l++r):=by simp [nb]
theorem zfw (s:ByteArray) (i j:Nat):bl (s.extract i j)=((bl s).take j).drop i:=by
 simp [bl,ByteArray.data_extract,List.drop_take]
theorem zlq (l m:List UInt8) (a p:Nat) (h:a+m.length≤l.length):(l.take a++m++l.drop (a+m.length))[p]? =if p<a then l[p]? else if p<a+m.length then m[p-a]? else l[p]?:=by
 have h1:(l.take a).length=a:=by simp;omega
 by_cases c1:p<a
 ·rw [if_pos c1,JO,JY (by omega),Jz c1]
 ·rw [if_neg c1];by_cases c2:p<a+m.length
  ·rw [if_pos c2,JY (by simp;omega),Jk (by omega),h1]
  ·rw [if_neg c2,Jk (by simp;omega),QP];congr 1;simp;omega
theorem zop {x n:Nat} (h:x<n+n):x % n=if x<n then x else x-n:=by
 split
 ·exact Nat.mod_eq_of_lt (by assumption)
 ·rw [Nat.mod_eq_sub_mod (by omega),Nat.mod_eq_of_lt (by omega)]
instance c328 [o:Ob ringC cs b r put] {s:ByteArray}:Go1 (fn 328 [.pointer (some (ad b 0)),.string s] K cs)
  (∀r':Rg,r'.q=r.q++(bl s).take (r.buf.length-r.n)→r'.buf.length=r.buf.length→K (.int .i64 (min s.size (r.buf.length-r.n):Nat)) (put (ringC b r'))):=⟨λh=>o.fn2 (bk b 380 _) (bk r.bb 5 _) rfl λF=>f328 (by
 unfold s328;have h0:=r.h0;have h1:=r.h1;have h2:=r.h2;have h3:=r.h3;refine go ?_;have e1:w64 ((r.buf.length:Int)-r.n)=(r.buf.length-r.n:Nat):=by rw [zad (by omega)];omega
 have hss:(s.size:Int)=((bl s).length:Nat):=rfl;have e2:(if((r.buf.length-r.n:Nat):Int)<s.size then((r.buf.length-r.n:Nat):Int)else s.size)=(min s.size (r.buf.length-r.n):Nat):=by omega
 have e3:w64 ((r.first:Int)+r.n)=(r.first+r.n:Nat):=by rw [zad (by omega)];omega
 have e4:((r.first+r.n:Nat):Int) % r.buf.length=((r.first+r.n) % r.buf.length:Nat):=by push_cast;rfl
 have e5:w64 ((r.n:Int)+(min s.size (r.buf.length-r.n):Nat))=(r.n+min s.size (r.buf.length-r.n):Nat):=by rw [zad (by omega)];omega
 simp only [e1,e2,e3,e4,e5,JE];have ha:(r.first+r.n) % r.buf.length<r.buf.length:=Nat.mod_lt _ h0;generalize hk:min s.size (r.buf.length-r.n)=k at *;generalize hat:(r.first+r.n) % r.buf.length=a at *;have hsz:∀i,(s.extract i k).size=k-i:=λi=>by rw [←zac,zfw,Jb,Jh,zac];omega
 simp only [hsz,Nat.sub_zero];have hm:min (k-min k (r.buf.length-a)) r.buf.length=k-min k (r.buf.length-a):=by omega
 rw [hm];generalize he:min k (r.buf.length-a)=e at *;refine⟨⟨by omega,by omega⟩,⟨by omega,by omega,by omega⟩,λx hx=>⟨⟨by omega,by omega⟩,.inr (by rw [hx ha,ze3];omega),⟨by omega,by omega,by omega⟩,.inr (by rw [hx ha];simp [ze3];omega),?_⟩⟩;rw [hx ha];simp only [z1r,z1s,zvg,zfw,Jm,Nat.zero_add,Nat.mul_one,List.take_zero,List.take_take,JF];have l1:(List.take (min e k) (bl s)).length=e:=by rw [Jh,zac];omega
 have l2:(List.take (k-e) (List.drop e (List.take k (bl s)))).length=k-e:=by rw [Jh,Jb,Jh,zac];omega
 have g1:∀p,(r.buf.take a++List.take (min e k) (bl s)++r.buf.drop (a+e))[p]? =if p<a then r.buf[p]? else if p<a+e then(List.take (min e k) (bl s))[p-a]? else r.buf[p]?:=λp=>by
  have:=zlq r.buf (List.take (min e k) (bl s)) a p (by rw [l1];omega)
  rw [l1]at this;exact this
 have l3:(r.buf.take a++List.take (min e k) (bl s)++r.buf.drop (a+e)).length=r.buf.length:=by
  rw [JH,JH,l1,Jh,Jb];omega
 generalize r.buf.take a++List.take (min e k) (bl s)++r.buf.drop (a+e)=b1 at *;have g2:∀p,(b1.take 0++List.take (k-e) (List.drop e (List.take k (bl s)))++b1.drop (0+(k-e)))[p]? =if p<0 then b1[p]? else if p<0+(k-e)then(List.take (k-e) (List.drop e (List.take k (bl s))))[p-0]? else b1[p]?:=λp=>by
  have:=zlq b1 (List.take (k-e) (List.drop e (List.take k (bl s)))) 0 p (by rw [l2];omega)
  rw [l2]at this;exact this
 simp only [List.take_zero,JF,Nat.zero_add,Nat.not_lt_zero,if_false,Nat.sub_zero]at g2;have l4:(List.take (k-e) (List.drop e (List.take k (bl s)))++b1.drop (k-e)).length=r.buf.length:=by rw [JH,l2,Jb];omega
 have hbl:=zac s;have lk:(List.take (r.buf.length-r.n) (bl s)).length=k:=by rw [Jh,hbl];omega
 generalize hb2:List.take (k-e) (List.drop e (List.take k (bl s)))++b1.drop (k-e)=b2 at *;obtain⟨r',q1,q2,q3,q4,q5⟩:=z2s r (List.take (r.buf.length-r.n) (bl s)) (by rw [lk];omega) b2 l4 (λj hj=>by
  rw [lk,g2,g1];have ea:=zop (x:=r.first+r.n) (n:=r.buf.length) (by omega);have ep:=zop (x:=r.first+j) (n:=r.buf.length) (by omega);rw [hat]at ea;generalize (r.first+j) % r.buf.length=p at *;have hp:p<r.buf.length:=by split at ep <;>omega
  have gs:∀i,i<k→(bl s)[i]? =(List.take (r.buf.length-r.n) (bl s))[i]?:=λi hi=>by rw [Jz (by omega)]
  by_cases c1:j<r.n
  ·rw [if_pos c1];have n1:¬p<k-e:=by split at ea <;>split at ep <;>omega
   rw [if_neg n1];by_cases c2:p<a
   ·rw [if_pos c2]
   ·rw [if_neg c2,if_neg (by split at ea <;>split at ep <;>omega)]
  ·rw [if_neg c1];by_cases c2:j<r.n+k
   ·rw [if_pos c2];by_cases c3:p<k-e
    ·rw [if_pos c3,Jz c3,QP,Jz (by omega),gs _ (by omega)];congr 1;split at ea <;>split at ep <;>omega
    ·rw [if_neg c3,if_neg (by split at ea <;>split at ep <;>omega),if_pos (by split at ea <;>split at ep <;>omega),Jz (by split at ea <;>split at ep <;>omega),gs _ (by split at ea <;>split at ep <;>omega)];congr 1;split at ea <;>split at ep <;>omega
   ·rw [if_neg c2,if_neg (by split at ea <;>split at ep <;>omega)];by_cases c3:p<a
    ·rw [if_pos c3]
    ·rw [if_neg c3,if_neg (by split at ea <;>split at ep <;>omega)])
 have hh:=h r' q5 (by rw [q2];exact l4)
 have:ringC b r'=bk b 380 [.slice (some (ad r.bb 0)) r.buf.length r.buf.length,.int .i64 r.first,.int .i64 (r.n+k:Nat)]++bk r.bb 5 (List.map (Value.int .u8) (nb b2)):=by
  unfold ringC;rw [q1,q2,q3,q4,lk,l4]
 rw [this]at hh;exact⟨_,_,drp,hh⟩)⟩
end
def pendC (b:Nat) (x:Wtr×Int):Chunk:=bk b 382 [.int .i64 x.1.out,.string x.1.text,.int .i64 x.1.sent,.int .i64 x.1.laid,.int .i64 x.2]
theorem z3x:bs []=ByteArray.empty:=rfl
section
variable {cs:St} {b:Nat} {p:Wtr} {m:Int} {put:Chunk→St} {K:Value→SP}
instance pendRd [o:Ob pendC cs b (p,m) put]:RdB cs b 382 [.int .i64 p.out,.string p.text,.int .i64 p.sent,.int .i64 p.laid,.int .i64 m]:=⟨by
 obtain⟨i,h,_⟩:=o.h;exact Rd.in h (by simp [pendC,bk])⟩
instance c232 {x:Int}:Go1 (fn 232 [.int .i64 x] K cs) (∀b,K (.pointer (some (ad b 0))) (pendC b (Wtr.new x,0)::cs)):=⟨λh=>f232 (by
 unfold s232;refine go λb=> ?_;have e:(if 4096<if 1>x then 1 else x then 4096 else if 1>x then 1 else x)=min (max x 1) 4096:=by omega
 rw [e];exact h b)⟩
instance c334 [o:Ob pendC cs b (p,m) put]:Go1 (fn 334 [.pointer (some (ad b 0))] K cs) (p.Ok∧K (.int .i64 p.left) cs):=⟨λh=>f334 (by
 unfold s334;refine go (keq h.2 ?_);obtain⟨h0,h1,h2,h3,h4,h5⟩:=h.1;rw [zad (by omega)];rfl)⟩
instance c250 [o:Ob pendC cs b (p,m) put]:Go1 (fn 250 [.pointer (some (ad b 0))] K cs) (p.Ok∧K (.int .i64 p.rest) cs):=⟨λh=>f250 (by
 unfold s250;refine go (keq h.2 ?_);obtain⟨h0,h1,h2,h3,h4,h5⟩:=h.1;rw [zad (by omega)];rfl)⟩
instance c176 [o:Ob pendC cs b (p,m) put]:Go1 (fn 176 [.pointer (some (ad b 0))] K cs) (p.Ok∧K (.string p.peek) cs):=⟨λh=>f176 (by
 unfold s176;obtain⟨h0,h1,h2,h3,h4,h5⟩:=h.1;exact go ⟨by omega,h.2⟩)⟩
instance c324 [o:Ob pendC cs b (p,m) put] {s:ByteArray}:Go1 (fn 324 [.pointer (some (ad b 0)),.string s] K cs) (K undef (put (pendC b (p.begin s,0)))):=⟨λh=>o.fn1 (bk b 382 [.int .i64 p.out,.string p.text,.int .i64 p.sent,.int .i64 p.laid,.int .i64 m]) rfl λF=>f324 (by
 unfold s324;refine go ?_;simp only [pendC,Wtr.begin]at h;exact⟨_,drp,h⟩)⟩
instance c417 [o:Ob pendC cs b (p,m) put]:Go1 (fn 417 [.pointer (some (ad b 0))] K cs) (p.Ok∧K (.int .i64 p.loads) (put (pendC b (p.load,m)))):=⟨λh=>o.fn1 (bk b 382 [.int .i64 p.out,.string p.text,.int .i64 p.sent,.int .i64 p.laid,.int .i64 m]) rfl λF=>f417 (by
 obtain⟨⟨h0,h1,h2,h3,h4,h5⟩,h⟩:=h;unfold s417;refine goj ?_;have e1:w64 ((p.text.size:Int)-p.laid)=p.text.size-p.laid:=zad (by omega);rw [e1];have e2:(if p.out<(p.text.size:Int)-p.laid then p.out else(p.text.size:Int)-p.laid)=min (p.text.size-p.laid) p.out:=by omega
 rw [e2,zad (by omega)];simp only [JD,JB];refine⟨λc=> ?_,λc=> ?_⟩
 ·have e:p.loads=0:=if_pos c;simp only [pendC,Wtr.load,e,Int.add_zero]at h;exact⟨_,drp,h⟩
 ·have e:p.loads=min (p.text.size-p.laid) p.out:=if_neg c;simp only [pendC,Wtr.load,e]at h;exact⟨_,drp,h⟩)⟩
instance c329 [o:Ob pendC cs b (p,m) put] {n:Int}:Go1 (fn 329 [.pointer (some (ad b 0)),.int .i64 n] K cs) (p.Ok∧∀m',K (.string (p.taken n)) (put (pendC b (p.take n,m')))):=⟨λh=>o.fn1 (bk b 382 [.int .i64 p.out,.string p.text,.int .i64 p.sent,.int .i64 p.laid,.int .i64 m]) rfl λF=>f329 (by
 obtain⟨⟨h0,h1,h2,h3,h4,h5⟩,h⟩:=h;unfold s329;refine goj ?_;have e1:w64 (p.laid-p.sent)=p.laid-p.sent:=zad (by omega);rw [e1];have e2:(if p.laid-p.sent<if 0>n then 0 else n then p.laid-p.sent else if 0>n then 0 else n)=min (max n 0) (p.laid-p.sent):=by omega
 rw [e2,zad (by omega)];simp only [Jd,JL,JD,JB];refine⟨λc=> ?_,λc=>⟨λc1=>⟨by omega,?_⟩,λc1=>⟨by omega,?_⟩⟩⟩
 ·have e:p.taken n= .empty:=if_pos c;have h9:p.upto n=p.sent:=by simp only [Wtr.upto];omega
  have e2:p.take n=p:=by unfold Wtr.take;rw [h9]
  have:=h m
  rw [e,e2]at this;simp only [pendC]at this;exact⟨_,drp,this⟩
 ·have e:p.taken n=p.text.extract p.sent.toNat (p.upto n).toNat:=if_neg c
  have:=h (w64 (m+1))
  rw [e]at this;simp only [pendC,Wtr.take,Wtr.upto]at this ⊢;exact⟨_,drp,this⟩
 ·have e:p.taken n=p.text.extract p.sent.toNat (p.upto n).toNat:=if_neg c
  have:=h m
  rw [e]at this;simp only [pendC,Wtr.take,Wtr.upto]at this ⊢;exact⟨_,drp,this⟩)⟩
end
def qat (q:List Nat) (k:Int):Int:=if 0≤k∧k<q.length then(q.getD k.toNat 0:Nat)else -1
theorem zez {q:List Nat} {k:Nat} (h:k<q.length):qat q k=(q[k]:Nat):=by
 unfold qat;rw [if_pos (by omega),JE,JA,JC h];rfl
theorem zco {q:List Nat} {k:Int} (h:k<0∨q.length≤k):qat q k= -1:=by unfold qat;rw [if_neg (by omega)]
theorem zuu (q:List Nat) (k:Int): -1≤qat q k:=by unfold qat;split <;>omega
theorem zus (k:Int):qat [] k= -1:=by unfold qat;rw [if_neg (by simp)]
structure Ff where
 bn:Nat
 bp:Nat
 bi:Nat
 next:List Int
 prev:List Int
 inn:List Bool
 q:List Nat
 h1:next.length=inn.length
 h2:prev.length=inn.length
 h3:inn.length≤1024
 nd:q.Nodup
 lt:∀i∈q,i<inn.length
 hi:∀i,i<inn.length→inn.getD i false=decide (i∈q)
 hn:∀k,(h:k<q.length)→next.getD q[k] 0=qat q (k+1)
 hp:∀k,(h:k<q.length)→prev.getD q[k] 0=qat q (k-1)
def fifoC (b:Nat) (f:Ff):Chunk:=bk b 350 [.slice (some (ad f.bn 0)) f.inn.length f.inn.length,.slice (some (ad f.bp 0)) f.inn.length f.inn.length,.slice (some (ad f.bi 0)) f.inn.length f.inn.length,.int .i64 (qat f.q 0),.int .i64 (qat f.q (f.q.length-1)),.int .i64 f.q.length] ++
 (bk f.bn 3 (List.map (Value.int .i64) f.next)++(bk f.bp 3 (List.map (Value.int .i64) f.prev)++bk f.bi 4 (List.map Value.bool f.inn)))
theorem ze2 {q:List Nat} {n:Nat} (h:q.Nodup) (hl:∀i∈q,i<n):q.length≤n:=by
 have:=zg4 (m:=List.range n) h λi hi=>List.mem_range.2 (hl i hi)
 simpa using this
section
variable {cs:St} {b:Nat} {f:Ff} {put:Chunk→St} {K:Value→SP}
instance {x:Int}:Go1 (fn 339 [.pointer (some (ad b 0)),.int .i64 x] K cs) (s339 (ad b 0) x K cs):=⟨f339⟩
instance c138 {x:Int}:Go1 (fn 138 [.int .i64 x] K cs) (∀b f,Ff.q f=[]→(f.inn.length:Int)=min (max x 1) 1024→K (.pointer (some (ad b 0))) (fifoC b f::cs)):=⟨λh=>up0 (f138 (by
 unfold s138;have e:(if 1024<if 1>x then 1 else x then 1024 else if 1>x then 1 else x)=min (max x 1) 1024:=by omega
 rw [e];have key:∀b bn bp bi,K (.pointer (some (ad b 0))) ((bk b 350 [.slice (some (ad bn 0)) (min (max x 1) 1024).toNat (min (max x 1) 1024).toNat,.slice (some (ad bp 0)) (min (max x 1) 1024).toNat (min (max x 1) 1024).toNat,.slice (some (ad bi 0)) (min (max x 1) 1024).toNat (min (max x 1) 1024).toNat,.int .i64 (-1),.int .i64 (-1),.int .i64 0] ++
   (bk bn 3 (List.map (Value.int .i64) (List.replicate (min (max x 1) 1024).toNat 0))++(bk bp 3 (List.map (Value.int .i64) (List.replicate (min (max x 1) 1024).toNat 0))++bk bi 4 (List.map Value.bool (List.replicate (min (max x 1) 1024).toNat false)))))::cs):=by
  intro b bn bp bi
  have:=h b ⟨bn,bp,bi,List.replicate (min (max x 1) 1024).toNat 0,List.replicate (min (max x 1) 1024).toNat 0,List.replicate (min (max x 1) 1024).toNat false,[],by simp,by simp,by simp;omega,.nil,λi hi=>(by cases hi),λi hi=>by simp [JA,QD];split <;>rfl,λk hk=>absurd hk (Nat.not_lt_zero _),λk hk=>absurd hk (Nat.not_lt_zero _)⟩ rfl (by simp;omega)
  simpa [fifoC,zus]using this
 have key2:∀{b bn bp bi:Nat} {c:St},Drp c (bk bn 3 (List.map (Value.int .i64) (List.replicate (min (max x 1) 1024).toNat 0))::bk bp 3 (List.map (Value.int .i64) (List.replicate (min (max x 1) 1024).toNat 0))::bk bi 4 (List.map Value.bool (List.replicate (min (max x 1) 1024).toNat false))::cs)→
   Up K (.pointer (some (ad b 0))) (bk b 350 [.slice (some (ad bn 0)) (min (max x 1) 1024).toNat (min (max x 1) 1024).toNat,.slice (some (ad bp 0)) (min (max x 1) 1024).toNat (min (max x 1) 1024).toNat,.slice (some (ad bi 0)) (min (max x 1) 1024).toNat (min (max x 1) 1024).toNat,.int .i64 (-1),.int .i64 (-1),.int .i64 0]::c):=
  λ{b bn bp bi _} d=>⟨_,by
   obtain⟨l,hl⟩:=d.h;refine Imp.of_sub (l:=l) ?_;simp only [JV,JO]at hl ⊢;exact List.Perm.append_left _ hl,key b bn bp bi⟩
 refine go ?_
 repeat' (first | apply And.intro | intro _)
 all_goals first | omega | exact key2 inferInstance))⟩
instance fifoRd [o:Ob fifoC cs b f put]:RdB cs b 350 [.slice (some (ad f.bn 0)) f.inn.length f.inn.length,.slice (some (ad f.bp 0)) f.inn.length f.inn.length,.slice (some (ad f.bi 0)) f.inn.length f.inn.length,.int .i64 (qat f.q 0),.int .i64 (qat f.q (f.q.length-1)),.int .i64 f.q.length]:=⟨by
 obtain⟨i,h,_⟩:=o.h;exact Rd.in h (by simp [fifoC,bk])⟩
theorem z0e (f:Ff):f.q.length≤1024:=Js (ze2 f.nd f.lt) f.h3
theorem zai {α:Type} (l:List α) (i j:Nat) (v d:α) (h:i<l.length):(l.set i v).getD j d=if i=j then v else l.getD j d:=by
 simp only [JA,Jy];by_cases e:i=j
 ·subst e;simp [h]
 ·simp [e]
theorem zhu (q:List Nat) (i:Nat) (k:Int):qat (q++[i]) k=if k=q.length then(i:Int)else qat q k:=by
 unfold qat;by_cases h:k=q.length
 ·subst h;rw [if_pos (by simp;omega),if_pos rfl];simp [JA]
 ·rw [if_neg h];by_cases h2:0≤k∧k<q.length
  ·rw [if_pos (by simp;omega),if_pos h2];simp only [JA];rw [JY (by omega)]
  ·rw [if_neg (by simp;omega),if_neg h2]
def zlv (f:Ff) (i:Nat) (hi:i<f.inn.length) (hq:i∉f.q):Ff where
 bn:=f.bn
 bp:=f.bp
 bi:=f.bi
 next:=if f.q=[]then f.next.set i (-1)else(f.next.set i (-1)).set (qat f.q (f.q.length-1)).toNat i
 prev:=f.prev.set i (qat f.q (f.q.length-1))
 inn:=f.inn.set i true
 q:=f.q++[i]
 h1:=by split <;>simp [f.h1]
 h2:=by simp [f.h2]
 h3:=by simp [f.h3]
 nd:=by rw [List.nodup_append];exact⟨f.nd,by simp,λa ha b hb=>by simp at hb;subst hb;exact λe=>hq (e▸ha)⟩
 lt:=λj hj=>by simp at hj ⊢;rcases hj with hj | rfl;exact f.lt j hj;exact hi
 hi:=λj hj=>by
  simp only [JK]at hj;rw [zai _ _ _ _ _ hi];by_cases e:i=j
  ·subst e;simp
  ·rw [if_neg e,f.hi j hj]
   have:¬j=i:=λx=>e x.symm
   simp [this]
 hn:=λk hk=>by
  have hl:i<f.next.length:=by rw [f.h1];exact hi
  simp only [JH,JP]at hk;rw [zhu];by_cases hkq:k<f.q.length
  ·have hne:f.q≠[]:=λe=>by rw [e]at hkq;simp at hkq
   rw [if_neg hne];simp only [Qo hkq];have hlast:qat f.q (f.q.length-1)=(f.q[f.q.length-1]:Nat):=by
    have:=zez (q:=f.q) (k:=f.q.length-1) (by omega)
    rw [←this];congr 1;omega
   rw [hlast,JE];have hll:f.q[f.q.length-1]<(f.next.set i (-1)).length:=by simp;rw [f.h1];exact f.lt _ (Jq _)
   rw [zai _ _ _ _ _ hll,zai _ _ _ _ _ hl];have hni:¬i=f.q[k]:=λe=>hq (e▸Jq _);by_cases e:k=f.q.length-1
   ·subst e;rw [if_pos rfl,if_pos (by omega)]
   ·have hne2:¬f.q[f.q.length-1]=f.q[k]:=λh=>e (by have:=(List.getElem_inj f.nd).1 h;omega);rw [if_neg hne2,if_neg hni,if_neg (by omega),f.hn k hkq]
  ·have hk':k=f.q.length:=by omega
   subst hk';have hne:¬((f.q.length:Int)+1=f.q.length):=by omega
   rw [if_neg hne,zco (k:=(f.q.length:Int)+1) (.inr (by omega))];simp only [List.getElem_concat_length];split
   ·rw [zai _ _ _ _ _ hl,if_pos rfl]
   ·rename_i hne;have hpos:0<f.q.length:=List.length_pos_iff.2 hne;have hlast:qat f.q (f.q.length-1)=(f.q[f.q.length-1]:Nat):=by
     have:=zez (q:=f.q) (k:=f.q.length-1) (by omega)
     rw [←this];congr 1;omega
    rw [hlast,JE];have hll:f.q[f.q.length-1]<(f.next.set i (-1)).length:=by simp;rw [f.h1];exact f.lt _ (Jq _)
    have hni:¬f.q[f.q.length-1]=i:=λe=>hq (e▸Jq _);rw [zai _ _ _ _ _ hll,if_neg hni,zai _ _ _ _ _ hl,if_pos rfl]
 hp:=λk hk=>by
  have hl:i<f.prev.length:=by rw [f.h2];exact hi
  simp only [JH,JP]at hk;rw [zhu];by_cases hkq:k<f.q.length
  ·simp only [Qo hkq];have hni:¬i=f.q[k]:=λe=>hq (e▸Jq _);rw [zai _ _ _ _ _ hl,if_neg hni,if_neg (by omega),f.hp k hkq]
  ·have hk':k=f.q.length:=by omega
   subst hk';simp only [List.getElem_concat_length];rw [zai _ _ _ _ _ hl,if_pos rfl,if_neg (by omega)]
theorem zx2 {q:List Nat} (h:q≠[]):qat q (q.length-1)=(q[q.length-1]'(by have:=List.length_pos_iff.2 h;omega):Nat):=by
 have hp:=List.length_pos_iff.2 h
 have:=zez (q:=q) (k:=q.length-1) (by omega)
 rw [←this];congr 1;omega
theorem zut (f:Ff) (k:Int):qat f.q k<f.inn.length∨qat f.q k= -1:=by
 unfold qat;split
 ·rename_i h;left;have hk:k.toNat<f.q.length:=by omega
  rw [JA,JC hk]
  have:=f.lt _ (Jq hk)
  simp only [Qd];omega
 ·exact .inr rfl
abbrev ffP (b:Nat) (f:Ff):Chunk:=bk b 350 [.slice (some (ad f.bn 0)) f.inn.length f.inn.length,.slice (some (ad f.bp 0)) f.inn.length f.inn.length,.slice (some (ad f.bi 0)) f.inn.length f.inn.length,.int .i64 (qat f.q 0),.int .i64 (qat f.q (f.q.length-1)),.int .i64 f.q.length]
instance c259 [o:Ob fifoC cs b f put] {x:Int}:Go1 (fn 259 [.pointer (some (ad b 0)),.int .i64 x] K cs)
  ((0≤x∧x<f.inn.length)∧(x.toNat∈f.q→K (.bool false) cs)∧(x.toNat∉f.q→∀f':Ff,f'.q=f.q++[x.toNat]→f'.inn.length=f.inn.length→K (.bool true) (put (fifoC b f')))):=⟨λh=>by
 obtain⟨⟨hx0,hx1⟩,hin,hout⟩:=h;have hi:=f.hi x.toNat (by omega);have h1:=f.h1;have h2:=f.h2;have hl:=z0e f;refine o.fn4 (ffP b f) (bk f.bn 3 (List.map (Value.int .i64) f.next)) (bk f.bp 3 (List.map (Value.int .i64) f.prev)) (bk f.bi 4 (List.map Value.bool f.inn)) rfl λF=>f259 ?_;unfold s259;refine goj ?_;simp only [ge_iff_le,JD,JB,Jc,Jl,Jd,JL];have e1:w64 ((f.q.length:Int)+1)=(f.q.length+1:Nat):=by rw [zad (by omega)];omega
 rw [e1];have hxx:((x.toNat:Nat):Int)=x:=by omega
 refine⟨λ_=>⟨λc=>absurd hx1 c,λ_=>⟨⟨hx0,hx1⟩,by omega,λc=> ?_,λc=>⟨⟨hx0,hx1⟩,by omega,⟨hx0,hx1⟩,by omega,⟨hx0,hx1⟩,by omega,λc1=> ?_,λc1=> ?_⟩⟩⟩,λc=>absurd hx0 c⟩
 ·rw [hi]at c
  have:=hin (of_decide_eq_true c)
  rw [←o.same]at this;exact⟨_,_,_,_,drp,this⟩
 ·rw [hi]at c;have hq:x.toNat∉f.q:=of_decide_eq_false c;have hne:f.q=[]:=Classical.byContradiction λhh=>by rw [zx2 hh]at c1;omega
  have hh:=hout hq (zlv f x.toNat (by omega) hq) rfl (by simp [zlv]);have a1:qat (f.q++[x.toNat]) 0=x:=by rw [zhu,hne];simp;omega
  have a2:qat (f.q++[x.toNat]) (((f.q.length+1:Nat):Int)-1)=x:=by rw [zhu,if_pos (by omega)];exact hxx
  simp only [fifoC,zlv,JH,JP,JK,a1,a2]at hh;rw [if_pos hne]at hh;exact⟨_,_,_,_,drp,hh⟩
 ·rw [hi]at c;have hq:x.toNat∉f.q:=of_decide_eq_false c;have hne:f.q≠[]:=λhh=>by rw [hh,zus]at c1;exact c1 rfl
  have hpos:=List.length_pos_iff.2 hne;have hh:=hout hq (zlv f x.toNat (by omega) hq) rfl (by simp [zlv]);have a1:qat (f.q++[x.toNat]) 0=qat f.q 0:=by rw [zhu,if_neg (by omega)]
  have a2:qat (f.q++[x.toNat]) (((f.q.length+1:Nat):Int)-1)=x:=by rw [zhu,if_pos (by omega)];exact hxx
  have a3:=zut f (f.q.length-1);have a4:=zuu f.q (f.q.length-1);simp only [fifoC,zlv,JH,JP,JK,a1,a2,hxx]at hh;rw [if_neg hne]at hh;refine⟨⟨by omega,by omega⟩,by simp only [JK];omega,⟨_,_,_,_,drp,hh⟩⟩⟩
theorem zpa (x:Nat):∀q:List Nat,q.eraseIdx (q.idxOf x)=q.erase x
 | []=>rfl
 | a::q=>by
  rw [List.idxOf_cons,List.erase_cons];cases h:a == x
  ·simp [zpa x q]
  ·simp
theorem zke {q:List Nat} {k j:Nat} (hj:j<(q.eraseIdx k).length) (hk:k<q.length):(q.eraseIdx k)[j]=if h:j<k then q[j]'(by omega)else q[j+1]'(by rw [List.length_eraseIdx_of_lt hk]at hj;omega):=by
 rw [List.getElem_eraseIdx]
theorem zgy {q:List Nat} {k:Nat} (hk:k<q.length) (j:Int) (hj:0≤j):qat (q.eraseIdx k) j=if j<k then qat q j else qat q (j+1):=by
 have hl:(q.eraseIdx k).length=q.length-1:=List.length_eraseIdx_of_lt hk;by_cases h:j<q.length-1
 ·have h1:=zez (q:=q.eraseIdx k) (k:=j.toNat) (by omega);rw [show((j.toNat:Nat):Int)=j by omega]at h1;rw [h1,zke _ hk];by_cases c:j<k
  ·rw [if_pos c,dif_pos (by omega)];have h2:=zez (q:=q) (k:=j.toNat) (by omega);rw [show((j.toNat:Nat):Int)=j by omega]at h2;rw [h2]
  ·rw [if_neg c,dif_neg (by omega)];have h2:=zez (q:=q) (k:=j.toNat+1) (by omega);rw [show((j.toNat+1:Nat):Int)=j+1 by omega]at h2;rw [h2]
 ·rw [zco (.inr (by omega)),if_neg (by omega),zco (.inr (by omega))]
def ffCut (f:Ff) (k:Nat) (hk:k<f.q.length):Ff where
 bn:=f.bn
 bp:=f.bp
 bi:=f.bi
 next:=if qat f.q (k-1)= -1 then f.next else f.next.set (qat f.q (k-1)).toNat (qat f.q (k+1))
 prev:=if qat f.q (k+1)= -1 then f.prev else f.prev.set (qat f.q (k+1)).toNat (qat f.q (k-1))
 inn:=f.inn.set f.q[k] false
 q:=f.q.eraseIdx k
 h1:=by split <;>simp [f.h1]
 h2:=by split <;>simp [f.h2]
 h3:=by simp [f.h3]
 nd:=f.nd.sublist (List.eraseIdx_sublist _ _)
 lt:=λj hj=>by rw [JK];exact f.lt j ((List.eraseIdx_sublist _ _).subset hj)
 hi:=λj hj=>by
  rw [JK]at hj;rw [zai _ _ _ _ _ (f.lt _ (Jq hk)),f.hi j hj];have hm:∀j,j∈f.q.eraseIdx k↔j∈f.q∧j≠f.q[k]:=λj=>by
   rw [List.mem_eraseIdx_iff_getElem];constructor
   ·rintro⟨i,hi,hne,rfl⟩;exact⟨Jq hi,λe=>hne ((List.getElem_inj f.nd).1 e)⟩
   ·rintro⟨hj,hne⟩;obtain⟨i,hi,rfl⟩:=List.getElem_of_mem hj;exact⟨i,hi,λe=>hne (by subst e;rfl),rfl⟩
  by_cases e:f.q[k]=j
  ·rw [if_pos e];exact(decide_eq_false λh=>((hm j).1 h).2 e.symm).symm
  ·rw [if_neg e]
   have:(j∈f.q)↔j∈f.q.eraseIdx k:=by rw [hm];exact⟨λh=>⟨h,λx=>e x.symm⟩,λh=>h.1⟩
   exact decide_eq_decide.2 this
 hn:=λj hj=>by
  have hl:(f.q.eraseIdx k).length=f.q.length-1:=List.length_eraseIdx_of_lt hk;rw [zke hj hk,zgy hk _ (by omega)];by_cases c0:k=0
  ·subst c0;rw [if_pos (zco (.inl (by omega))),dif_neg (by omega),if_neg (by omega)];exact f.hn (j+1) (by omega)
  ·have ha:qat f.q ((k:Int)-1)=(f.q[k-1]'(by omega):Nat):=by
    have:=zez (q:=f.q) (k:=k-1) (by omega)
    rw [←this];congr 1;omega
   rw [ha,if_neg (by omega),JE];have hlt:f.q[k-1]'(by omega)<f.next.length:=by rw [f.h1];exact f.lt _ (Jq _)
   rw [zai _ _ _ _ _ hlt];by_cases c1:j<k
   ·rw [dif_pos c1];by_cases c2:j=k-1
    ·subst c2;rw [if_pos rfl,if_neg (by omega)];congr 1;omega
    ·rw [if_neg (λe=>c2 ((List.getElem_inj f.nd).1 e).symm),if_pos (by omega)];exact f.hn j (by omega)
   ·rw [dif_neg c1,if_neg (λe=>by have:=(List.getElem_inj f.nd).1 e;omega),if_neg (by omega)];exact f.hn (j+1) (by omega)
 hp:=λj hj=>by
  have hl:(f.q.eraseIdx k).length=f.q.length-1:=List.length_eraseIdx_of_lt hk;rw [zke hj hk];have hqj:qat (f.q.eraseIdx k) ((j:Int)-1)=if j=0 then -1 else if j-1<k then qat f.q ((j:Int)-1)else qat f.q j:=by
   by_cases c:j=0
   ·rw [if_pos c,zco (.inl (by omega))]
   ·rw [if_neg c,zgy hk _ (by omega)];by_cases c2:j-1<k
    ·rw [if_pos (by omega),if_pos c2]
    ·rw [if_neg (by omega),if_neg c2];congr 1;omega
  rw [hqj];have hp1:∀i,(h:i<f.q.length)→f.prev.getD f.q[i] 0=if i=0 then -1 else qat f.q ((i:Int)-1):=λi h=>by
   rw [f.hp i h];by_cases c:i=0
   ·rw [if_pos c,zco (.inl (by omega))]
   ·rw [if_neg c]
  by_cases c0:k+1=f.q.length
  ·rw [if_pos (zco (.inr (by omega))),dif_pos (by omega),hp1 j (by omega)];by_cases c:j=0
   ·rw [if_pos c,if_pos c]
   ·rw [if_neg c,if_neg c,if_pos (by omega)]
  ·have ha:qat f.q ((k:Int)+1)=(f.q[k+1]'(by omega):Nat):=zez (q:=f.q) (k:=k+1) (by omega);rw [ha,if_neg (by omega),JE];have hlt:f.q[k+1]'(by omega)<f.prev.length:=by rw [f.h2];exact f.lt _ (Jq _)
   rw [zai _ _ _ _ _ hlt];by_cases c1:j<k
   ·rw [dif_pos c1,if_neg (λe=>by have:=(List.getElem_inj f.nd).1 e;omega),hp1 j (by omega)];by_cases c:j=0
    ·rw [if_pos c,if_pos c]
    ·rw [if_neg c,if_neg c,if_pos (by omega)]
   ·rw [dif_neg c1];by_cases c2:j=k
    ·subst c2;rw [if_pos rfl];by_cases c:j=0
     ·rw [if_pos c];exact zco (.inl (by omega))
     ·rw [if_neg c,if_pos (by omega)]
    ·rw [if_neg (λe=>by have:=(List.getElem_inj f.nd).1 e;omega),hp1 (j+1) (by omega),if_neg (by omega),if_neg (by omega),if_neg (by omega)];congr 1;omega
instance c331 [o:Ob fifoC cs b f put] {x:Int}:Go1 (fn 331 [.pointer (some (ad b 0)),.int .i64 x] K cs)
  (∃k,∃h:k<f.q.length,x=(f.q[k]:Nat)∧∀f':Ff,f'.q=f.q.eraseIdx k→f'.inn.length=f.inn.length→K undef (put (fifoC b f'))):=⟨λh=>by
 obtain⟨k,hk,rfl,h⟩:=h;have hh:=h (ffCut f k hk) rfl (by simp [ffCut]);have h1:=f.h1;have h2:=f.h2;have hl:=z0e f;have hx:=f.lt _ (Jq hk);refine o.fn4 (ffP b f) (bk f.bn 3 (List.map (Value.int .i64) f.next)) (bk f.bp 3 (List.map (Value.int .i64) f.prev)) (bk f.bi 4 (List.map Value.bool f.inn)) rfl λF=>f331 ?_;unfold s331;refine goj ?_;have g1:f.prev.getD ((f.q[k]:Nat):Int).toNat 0=qat f.q (k-1):=by rw [JE];exact f.hp k hk
 have g2:f.next.getD ((f.q[k]:Nat):Int).toNat 0=qat f.q (k+1):=by rw [JE];exact f.hn k hk
 have e1:w64 ((f.q.length:Int)-1)=(f.q.length-1:Nat):=by rw [zad (by omega)];omega
 simp only [g1,g2,e1,Jd,JL];have hle:(f.q.eraseIdx k).length=f.q.length-1:=List.length_eraseIdx_of_lt hk;have a1:qat (f.q.eraseIdx k) 0=if k=0 then qat f.q 1 else qat f.q 0:=by
  rw [zgy hk _ (by omega)];by_cases c:k=0
  ·rw [if_pos c,if_neg (by omega)];rfl
  ·rw [if_neg c,if_pos (by omega)]
 have a2:qat (f.q.eraseIdx k) (((f.q.length-1:Nat):Int)-1)=if k+1=f.q.length then qat f.q ((k:Int)-1)else qat f.q (f.q.length-1):=by
  by_cases c0:f.q.length=1
  ·rw [if_pos (by omega),zco (.inl (by omega)),zco (.inl (by omega))]
  ·rw [zgy hk _ (by omega)];by_cases c:k+1=f.q.length
   ·rw [if_pos c,if_pos (by omega)];congr 1;omega
   ·rw [if_neg c,if_neg (by omega)];congr 1;omega
 have b1:qat f.q ((k:Int)-1)= -1↔k=0:=by
  constructor
  ·intro h;refine Classical.byContradiction λhne=> ?_
   have:=zez (q:=f.q) (k:=k-1) (by omega)
   rw [show((k-1:Nat):Int)=(k:Int)-1 by omega]at this;omega
  ·rintro rfl;exact zco (.inl (by omega))
 have b2:qat f.q ((k:Int)+1)= -1↔k+1=f.q.length:=by
  constructor
  ·intro h;refine Classical.byContradiction λhne=> ?_
   have:=zez (q:=f.q) (k:=k+1) (by omega)
   rw [show((k+1:Nat):Int)=(k:Int)+1 by omega]at this;omega
  ·intro h;exact zco (.inr (by omega))
 have q1:=zut f ((k:Int)-1);have q2:=zuu f.q ((k:Int)-1);have q3:=zut f ((k:Int)+1);have q4:=zuu f.q ((k:Int)+1);simp only [fifoC,ffCut,JK,hle,a1,a2]at hh;have d1:qat f.q ((k:Int)-1)= -1→(if k=0 then qat f.q 1 else qat f.q 0)=qat f.q ((k:Int)+1):=λc=>by obtain rfl:=b1.1 c;rfl
 have d2:qat f.q ((k:Int)-1)≠-1→(if k=0 then qat f.q 1 else qat f.q 0)=qat f.q 0:=λc=>if_neg λh=>c (b1.2 h);simp only [JE];refine⟨⟨by omega,by omega⟩,by omega,⟨by omega,by omega⟩,by omega,λc1=>⟨λc2=> ?_,λc2=> ?_⟩,λc1=>⟨⟨by omega,by omega⟩,by omega,λc2=> ?_,λc2=> ?_⟩⟩
 ·rw [d1 c1,if_pos c1,if_pos c2,if_pos (b2.1 c2)]at hh;exact⟨⟨by omega,by omega⟩,by omega,_,_,_,_,drp,hh⟩
 ·rw [d1 c1,if_pos c1,if_neg c2,if_neg (λh=>c2 (b2.2 h))]at hh;exact⟨⟨by omega,by omega⟩,by omega,⟨by omega,by omega⟩,by omega,_,_,_,_,drp,hh⟩
 ·rw [d2 c1,if_neg c1,if_pos c2,if_pos (b2.1 c2)]at hh;exact⟨⟨by omega,by omega⟩,by omega,_,_,_,_,drp,hh⟩
 ·rw [d2 c1,if_neg c1,if_neg c2,if_neg (λh=>c2 (b2.2 h))]at hh;exact⟨⟨by omega,by omega⟩,by omega,⟨by omega,by omega⟩,by omega,_,_,_,_,drp,hh⟩⟩
instance c244 [o:Ob fifoC cs b f put]:Go1 (fn 244 [.pointer (some (ad b 0))] K cs)
  ((f.q=[]→K (.tuple ⟨[.int .i64 0,.bool false]⟩) cs)∧(∀i r,f.q=i::r→∀f':Ff,f'.q=r→f'.inn.length=f.inn.length→K (.tuple ⟨[.int .i64 i,.bool true]⟩) (put (fifoC b f')))):=⟨λ⟨h0,h1⟩=>f244 (by
 unfold s244;refine go ?_;simp only [Jd,JL];refine⟨λc=>h0 (List.eq_nil_of_length_eq_zero (by omega)),λc=> ?_⟩;cases hq:f.q with
 | nil=>rw [hq]at c;exact absurd rfl c
 | cons i r=>
  have hk:0<f.q.length:=by rw [hq];simp
  have e:qat f.q 0=(i:Nat):=by have:=zez (k:=0) hk;rw [show((0:Nat):Int)=0 from rfl]at this;rw [this];simp [hq]
  rw [←hq,e];refine⟨0,hk,by simp [hq],λf' hf hl=>h1 i r hq f' (by rw [hf,hq];rfl) hl⟩)⟩
instance c338 [o:Ob fifoC cs b f put] {x:Int}:Go1 (fn 338 [.pointer (some (ad b 0)),.int .i64 x] K cs)
  ((0≤x∧x<f.inn.length)∧(x.toNat∉f.q→K (.bool false) cs)∧(x.toNat∈f.q→∀f':Ff,f'.q=f.q.erase x.toNat→f'.inn.length=f.inn.length→K (.bool true) (put (fifoC b f')))):=⟨λ⟨⟨hx0,hx1⟩,h0,h1⟩=>f338 (by
 have r3:RdB cs f.bi 4 (List.map Value.bool f.inn):=⟨by obtain⟨i,h,_⟩:=o.h;exact Rd.in h (by simp [fifoC,bk])⟩;unfold s338;refine go ?_;have hi:=f.hi x.toNat (by omega);simp only [ge_iff_le,JD,JB,Jc,Jl,hi];refine⟨λ_=>⟨λc=>absurd hx1 c,λ_=>⟨⟨hx0,hx1⟩,by omega,h0,λc=> ?_⟩⟩,λc=>absurd hx0 c⟩;have hk:=Jr.2 c;refine⟨f.q.idxOf x.toNat,hk,by rw [List.getElem_idxOf hk];omega,λf' hf hl=>h1 c f' (by rw [hf,zpa]) hl⟩)⟩
end
@[reducible] def encS:Enc ByteArray 1:=⟨λx=>[.string x],by omega,λ_=>rfl⟩
instance fdS0:FdS encS 0 id:=⟨λ_=>rfl⟩
def cat (l:List ByteArray):List UInt8:=l.flatMap bl
structure Wi where
 a:Option Addr
 n:Nat
 c:Nat
 ps:List ByteArray
 ch:Chunk
 row:Row 9 1 a n c encS ps ch
 at_:Nat
 sent:Int
 read:Int
 eof:Bool
 h0:∀s∈ps,0<s.size
 h1:ps=[]→at_=0
 h2:∀s,ps[0]? =some s→at_<s.size
 h3:∀s∈ps,s.size≤4096
def Wi.q (x:Wi):List UInt8:=(cat x.ps).drop x.at_
def wireC (b:Nat) (x:Wi):Chunk:=bk b 365 [.slice x.a x.n x.c,.int .i64 x.at_,.int .i64 x.q.length,.int .i64 x.sent,.int .i64 x.read,.bool x.eof]++x.ch
instance wireRow (x:Wi):Row 9 1 x.a x.n x.c encS x.ps x.ch:=x.row
theorem zi2 (s:ByteArray) (l:List ByteArray):cat (s::l)=bl s++cat l:=rfl
theorem z2f (l m:List ByteArray):cat (l++m)=cat l++cat m:=QM
theorem ps_le:∀(l:List ByteArray),(∀s∈l,0<s.size)→l.length≤(cat l).length
 | [],_=>JG _
 | s::l,h=>by
  have h1:=h s (by simp);have h2:=ps_le l λx hx=>h x (by simp [hx]);rw [zi2,JH,Jw,zac];omega
theorem zd3 {b:Nat} {v:Value} {K:Value→SP} {put:Chunk→St} {F c:St} (x':Wi) {k m:Int} (h:K v (put (wireC b x'))) (e4:(x'.at_:Int)=k) (e5:(x'.q.length:Int)=m)
  [i:Drp c (bk b 365 [.slice x'.a x'.n x'.c,.int .i64 k,.int .i64 m,.int .i64 x'.sent,.int .i64 x'.read,.bool x'.eof]::x'.ch::F)]:
  ∃p1 p2,Imp c (p1::p2::F)∧K v (put (p1++p2)):=by
 subst e4;subst e5;exact⟨_,_,drp,h⟩
section
variable {cs:St} {b:Nat} {x:Wi} {put:Chunk→St} {K:Value→SP}
instance wireRd [o:Ob wireC cs b x put]:RdB cs b 365 [.slice x.a x.n x.c,.int .i64 x.at_,.int .i64 x.q.length,.int .i64 x.sent,.int .i64 x.read,.bool x.eof]:=⟨by
 obtain⟨i,h,_⟩:=o.h;exact Rd.in h (by simp [wireC,bk])⟩
instance c150:Go1 (fn 150 [] K cs) (∀b x,Wi.q x=[]→x.eof=false→K (.pointer (some (ad b 0))) (wireC b x::cs)):=⟨λh=>f150 (by
 unfold s150;refine go λb=> ?_;have hh:=h b ⟨none,0,0,[],[],⟨Sl.nil⟩,0,0,0,false,by simp,by simp,by simp,by simp⟩ rfl rfl;simpa [wireC,Wi.q,cat]using hh)⟩
instance c178 [o:Ob wireC cs b x put]:Go1 (fn 178 [.pointer (some (ad b 0))] K cs) (K (.int .i64 x.q.length) cs):=⟨λh=>f178 (by unfold s178;exact go h)⟩
instance c179 [o:Ob wireC cs b x put]:Go1 (fn 179 [.pointer (some (ad b 0))] K cs) (K (.bool x.eof) cs):=⟨λh=>f179 (by unfold s179;exact go h)⟩
instance c238 [o:Ob wireC cs b x put]:Go1 (fn 238 [.pointer (some (ad b 0))] K cs) (K (.bool (x.eof&&x.q.isEmpty)) cs):=⟨λh=>f238 (by
 unfold s238;refine go ⟨λh1=> ?_,λh1=> ?_⟩
 ·rw [h1]at h;refine keq h ?_;rw [Bool.true_and];congr 1;cases x.q with
  | nil=>rfl
  | cons y l=>
   simp only [Jw,List.isEmpty_cons,JL];omega
 ·rw [h1]at h;exact h)⟩
instance c255 [o:Ob wireC cs b x put]:Go1 (fn 255 [.pointer (some (ad b 0))] K cs) (∀x',Wi.q x'=[]→x'.eof=true→K (.int .i64 x.q.length) (put (wireC b x'))):=⟨λh=>o.fn2 (bk b 365 [.slice x.a x.n x.c,.int .i64 x.at_,.int .i64 x.q.length,.int .i64 x.sent,.int .i64 x.read,.bool x.eof]) x.ch rfl λF=>f255 (by
 unfold s255;refine go ?_;have hh:=h ⟨none,0,0,[],[],⟨Sl.nil⟩,0,x.sent,x.read,true,by simp,by simp,by simp,by simp⟩ rfl rfl;exact zd3 (k:=0) (m:=0) _ hh rfl rfl)⟩
theorem Wi.at_le (x:Wi):x.at_≤(cat x.ps).length:=by
 cases hp:x.ps with
 | nil=>rw [x.h1 hp];omega
 | cons s l=>
  have:=x.h2 s (by rw [hp];rfl)
  rw [zi2,JH,zac];omega
theorem Wi.q_len (x:Wi):x.q.length+x.at_=(cat x.ps).length:=by
 have:=x.at_le
 rw [Wi.q,Jb];omega
theorem Wi.ps_le (x:Wi):x.ps.length≤x.q.length:=by
 cases hp:x.ps with
 | nil=>simp
 | cons s l=>
  have h1:=x.h2 s (by rw [hp];rfl);have h2:=x.q_len;have h3:=Go.Proofs.YtbjlfobjngogkaaGreatDoor.ps_le l λy hy=>x.h0 y (by rw [hp];simp [hy]);rw [hp,zi2,JH,zac]at h2;rw [Jw];omega
theorem zc6 (s:ByteArray):(s.toList == (bs []).toList)=decide (s.size=0):=by
 rw [Lib.toList_data,Lib.toList_data]
 have:s.size=s.data.toList.length:=rfl
 rw [this];show(s.data.toList == [])=_;cases s.data.toList <;>simp
instance c153 [o:Ob wireC cs b x put] {s:ByteArray} {e:Bool}:Go1 (fn 153 [.pointer (some (ad b 0)),.string s,.bool e] K cs)
  (((x.eof=true∨4096<s.size)→K (.bool false) cs)∧((x.eof=false∧s.size≤4096)→x.q.length≤1000000000000∧∀x',Wi.q x'=x.q++bl s→x'.eof=e→K (.bool true) (put (wireC b x')))):=⟨λh=>o.fn2 (bk b 365 [.slice x.a x.n x.c,.int .i64 x.at_,.int .i64 x.q.length,.int .i64 x.sent,.int .i64 x.read,.bool x.eof]) x.ch rfl λF=>f153 (by
 obtain⟨ha,hb⟩:=h;unfold s153;have hl:=x.ps_le;have hr:=x.row.len;refine goj ?_;simp only [JD,JB,Jc,Jl,zc6];refine⟨λh1=> ?_,λh1=>⟨λh2=> ?_,λh2=> ?_⟩⟩
 ·have:=ha (.inl h1)
  rw [←o.same]at this;exact zd3 x this rfl rfl
 ·have:=ha (.inr (by omega))
  rw [←o.same]at this;exact zd3 x this rfl rfl
 ·obtain⟨hb,h⟩:=hb ⟨h1,by omega⟩;have e1:w64 ((x.q.length:Int)+s.size)=((x.q.length+s.size:Nat):Int):=by rw [zad (by omega)];omega
  rw [e1];refine⟨λh3=>⟨by omega,s,rfl,λa' c' ch' r=> ?_⟩,λh3=> ?_⟩
  ·have hq:(cat (x.ps++[s])).drop x.at_=x.q++bl s:=by
    rw [z2f,List.drop_append_of_le_length x.at_le];show x.q++(bl s++[])=_;rw [Jj]
   have p0:∀y∈x.ps++[s],0<y.size:=by
    intro y hy;rcases JX.1 hy with hy | hy
    ·exact x.h0 y hy
    ·simp at hy;subst hy;omega
   have p3:∀y∈x.ps++[s],y.size≤4096:=by
    intro y hy;rcases JX.1 hy with hy | hy
    ·exact x.h3 y hy
    ·simp at hy;subst hy;omega
   have p2:∀y,(x.ps++[s])[0]? =some y→x.at_<y.size:=by
    intro y hy;cases hp:x.ps with
    | nil=>rw [hp]at hy;simp at hy;subst hy;rw [x.h1 hp];omega
    | cons z l=>rw [hp]at hy;simp at hy;subst hy;exact x.h2 _ (by rw [hp];rfl)
   have hh:=h ⟨a',_,c',x.ps++[s],ch',r,x.at_,w64 (x.sent+s.size),x.read,e,p0,by simp,p2,p3⟩ hq rfl;refine zd3 (k:=x.at_) (m:=((x.q.length+s.size:Nat):Int)) _ hh rfl ?_;show(((cat (x.ps++[s])).drop x.at_).length:Int)=_;rw [hq,JH,zac]
  ·have hs:bl s=[]:=List.length_eq_zero_iff.1 (by rw [zac];exact h3)
   have:=h ⟨x.a,x.n,x.c,x.ps,x.ch,x.row,x.at_,w64 (x.sent+s.size),x.read,e,x.h0,x.h1,x.h2,x.h3⟩ (by rw [hs,Jj];rfl) rfl
   exact zd3 (k:=x.at_) (m:=(x.q.length+s.size:Nat)) _ this rfl (by rw [h3];rfl))⟩
theorem zz3 {s:ByteArray} {l:List ByteArray} {k:Nat} (h:k≤s.size):(cat (s::l)).drop k=(bl s).drop k++cat l:=by
 rw [zi2,List.drop_append_of_le_length (by rw [zac];exact h)]
theorem zci {t:TypeId} {a:Addr} {v:Value} {K:SP} {cs cs':St} (hi:Imp cs cs') (h:st t a v K cs'):st t a v K cs:=by
 cases h with
 | mk h=>exact⟨λE w hw=>h E w (hi E w hw)⟩
@[reducible] def Wi.next (x:Wi) {a':Option Addr} {n' c':Nat} {s:ByteArray} {l:List ByteArray} (hp:x.ps=s::l) (r:Row 9 1 a' n' c' encS l x.ch):Wi:=
 ⟨a',n',c',l,x.ch,r,0,x.sent,x.read,x.eof,λy hy=>x.h0 y (by rw [hp];simp [hy]),λ_=>rfl,λy hy=>x.h0 y (by rw [hp];exact Jo _ (JN hy)),λy hy=>x.h3 y (by rw [hp];simp [hy])⟩
@[reducible] def Wi.adv (x:Wi) {s:ByteArray} {l:List ByteArray} (hp:x.ps=s::l) (k:Nat) (hk:x.at_+k<s.size):Wi:=
 ⟨x.a,x.n,x.c,x.ps,x.ch,x.row,x.at_+k,x.sent,x.read,x.eof,x.h0,λh=>absurd (hp.symm.trans h) (by simp),λy hy=>(by rw [hp]at hy;simp at hy;subst hy;exact hk),x.h3⟩
theorem Wi.q_at (x:Wi) {s:ByteArray} {l:List ByteArray} (hp:x.ps=s::l):x.q=(bl s).drop x.at_++cat l∧x.at_<s.size:=by
 have h:=x.h2 s (by rw [hp];rfl);exact⟨by rw [Wi.q,hp,zz3 (Nat.le_of_lt h)],h⟩
theorem Wi.next_q (x:Wi) {a':Option Addr} {n' c':Nat} {s:ByteArray} {l:List ByteArray} (hp:x.ps=s::l) (r:Row 9 1 a' n' c' encS l x.ch):(x.next hp r).q=x.q.drop (s.size-x.at_):=by
 rw [(x.q_at hp).1,Wi.q];show(cat l).drop 0=_
 have:s.size-x.at_=((bl s).drop x.at_).length:=by rw [Jb,zac]
 rw [this,List.drop_left,Jm]
theorem Wi.adv_q (x:Wi) {s:ByteArray} {l:List ByteArray} (hp:x.ps=s::l) (k:Nat) (hk:x.at_+k<s.size):(x.adv hp k hk).q=x.q.drop k:=by
 show(cat x.ps).drop (x.at_+k)=((cat x.ps).drop x.at_).drop k;rw [Qf]
instance c272 [o:Ob wireC cs b x put] {n:Int}:Go1 (fn 272 [.pointer (some (ad b 0)),.int .i64 n] K cs)
  ((0≤n∧n≤x.q.length∧x.q.length≤1000000000000)∧∀x',Wi.q x'=x.q.drop n.toNat→x'.eof=x.eof→K undef (put (wireC b x'))):=⟨λh=>o.fn2 (bk b 365 [.slice x.a x.n x.c,.int .i64 x.at_,.int .i64 x.q.length,.int .i64 x.sent,.int .i64 x.read,.bool x.eof]) x.ch rfl λF=>f272 (by
 obtain⟨⟨h1,h2,h3⟩,h⟩:=h;unfold s272;refine go ?_;rw [zad (by omega)];refine lp (λy:Wi×Nat=>[.int .i64 y.2]) (λy=>bk b 365 [.slice y.1.a y.1.n y.1.c,.int .i64 y.1.at_,.int .i64 (x.q.length-n),.int .i64 y.1.sent,.int .i64 y.1.read,.bool y.1.eof]::y.1.ch::F)
  (λy=>y.2≤y.1.q.length∧y.1.q.drop y.2=x.q.drop n.toNat∧y.1.eof=x.eof∧y.1.q.length≤x.q.length) (λy=>y.2) (x,n.toNat) (by simp only [Int.toNat_of_nonneg h1]) drp ⟨by simp only;omega,rfl,rfl,JG _⟩ ?_
 rintro⟨y,k⟩ ⟨i1,i2,i3,i4⟩;dsimp only at *;have hr:=y.row.len;refine goj ?_;simp only [JD,JB,Jd,JL,ne_eq];refine⟨λhk=> ?_,λhk=> ?_⟩
 ·cases hp:y.ps with
  | nil=>
   have h4:=y.q_len;rw [hp]at h4
   have:(cat []).length=0:=rfl
   omega
  | cons s l=>
  obtain⟨hq,hat⟩:=y.q_at hp;have hql:y.q.length=(s.size-y.at_)+(cat l).length:=by rw [hq,JH,Jb,zac]
  rw [hp,Jw]at hr;have hs4:=y.h3 s (by rw [hp];simp);refine⟨by omega,λs1 hs1=>⟨by omega,λs2 hs2=> ?_⟩⟩;simp at hs1 hs2;subst hs1;subst hs2;have e1:w64 ((s.size:Int)-y.at_)=s.size-y.at_:=zad (by omega);simp only [id,e1];by_cases hc:s.size-y.at_≤k
  ·have e2:(if(s.size:Int)-y.at_<k then(s.size:Int)-y.at_ else k)=s.size-y.at_:=by omega
   rw [e2];have e3:w64 ((y.at_:Int)+(s.size-y.at_))=s.size:=by rw [zad (by omega)];omega
   have e4:w64 ((k:Int)-(s.size-y.at_))=((k-(s.size-y.at_):Nat):Int):=by rw [zad (by omega)];omega
   rw [e3,e4];refine⟨λ_=>⟨by omega,λa' r=> ?_⟩,λh5=>by omega⟩;have r':Row 9 1 a' (y.n-Int.toNat 1) (y.c-Int.toNat 1) encS l y.ch:=by simpa using r
   have hq':=y.next_q hp r';refine⟨(y.next hp r',k-(s.size-y.at_)),rfl,?_,⟨?_,?_,i3,?_⟩,?_⟩
   ·dsimp only;exact drp
   ·simp only [hq',Jb];omega
   ·simp only [hq',Qf];rw [←i2];congr 1;omega
   ·simp only [hq',Jb];omega
   ·simp only;omega
  ·have e2:(if(s.size:Int)-y.at_<k then(s.size:Int)-y.at_ else k)=k:=by omega
   rw [e2];have e3:w64 ((y.at_:Int)+k)=((y.at_+k:Nat):Int):=by rw [zad (by omega)];omega
   have e4:w64 ((k:Int)-k)=0:=by rw [Int.sub_self];rfl
   rw [e3,e4];refine⟨λh5=>by omega,λ_=> ?_⟩;have hq':=y.adv_q hp k (by omega);refine⟨(y.adv hp k (by omega),0),by simp,?_,⟨?_,?_,i3,?_⟩,?_⟩
   ·dsimp only;exact drp
   ·simp
   ·simp only [hq',Jm];exact i2
   ·simp only [hq',Jb];omega
   ·simp only;omega
 ·have e:k=0:=by omega
  subst e;have hh:=h y (by simpa using i2) i3;refine zd3 (m:=x.q.length-n) y hh rfl ?_
  have:=congrArg List.length i2
  simp only [Jb]at this;omega)⟩
def bu0:Bu:=⟨none,0,0,[],[],brNil,false⟩
theorem z3w {b:Nat} {F:St}:Imp (bk b 112 [.pointer none,.slice none 0 0]::F) (buC b bu0::F):=Imp.of_sub (l:=[]) (by simp [buC,bu0])
theorem zgf (s:ByteArray) (i:Nat) (h:i≤s.size):bl (s.extract i s.size)=(bl s).drop i:=by
 rw [zfw,List.take_of_length_le (by rw [zac];omega)]
theorem zpu (s:ByteArray):s.size=(bl s).length:=rfl
instance c271 [o:Ob wireC cs b x put] {n:Int}:Go1 (fn 271 [.pointer (some (ad b 0)),.int .i64 n] K cs)
  ((0≤n∧n≤x.q.length∧x.q.length≤1000000000000)∧K (.string (sb (x.q.take n.toNat))) cs):=⟨λh=>o.fn2 (bk b 365 [.slice x.a x.n x.c,.int .i64 x.at_,.int .i64 x.q.length,.int .i64 x.sent,.int .i64 x.read,.bool x.eof]) x.ch rfl λF=>f271 (by
 obtain⟨⟨h1,h2,h3⟩,h⟩:=h;rw [←o.same]at h;unfold s271;refine go λb'=> ?_;refine lp (λy:Nat×Nat×Nat×Bu=>[.int .i64 y.1,.int .i64 y.2.1,.int .i64 y.2.2.1]) (λy=>buC b' y.2.2.2::bk b 365 [.slice x.a x.n x.c,.int .i64 x.at_,.int .i64 x.q.length,.int .i64 x.sent,.int .i64 x.read,.bool x.eof]::x.ch::F)
  (λy=>y.2.2.1≤x.ps.length∧y.1≤((cat (x.ps.drop y.2.2.1)).drop y.2.1).length∧y.2.2.2.l++((cat (x.ps.drop y.2.2.1)).drop y.2.1).take y.1=x.q.take n.toNat∧∀s,x.ps[y.2.2.1]? =some s→y.2.1<s.size) (λy=>y.1)
  (n.toNat,x.at_,0,bu0) (by simp only [Int.toNat_of_nonneg h1];rfl) z3w ⟨by simp,?_,?_,x.h2⟩ ?_
 ·simp only [Jm];have:=x.q;show _≤x.q.length;omega
 ·simp only [Jm,JF];rfl
 rintro⟨k,at',i,u⟩ ⟨i0,i1,i2,i3⟩;dsimp only at *;have hr:=x.row.len;have hul:u.l.length≤x.q.length:=by
  have:=congrArg List.length i2
  simp only [JH,Jh]at this;omega
 have hkl:k≤x.q.length:=by
  have:=congrArg List.length i2
  simp only [JH,Jh]at this;omega
 refine goj ?_;simp only [JD,JB,JE,id];refine⟨λhk=> ?_,λhk=> ?_⟩
 ·have hlt:i<x.ps.length:=by
   rcases Ju i x.ps.length with h4 | h4
   ·exact h4
   ·rw [Je h4]at i1;simp [cat]at i1;omega
  refine⟨by omega,λs hs=> ?_⟩;have hat:=i3 s hs;have hd:x.ps.drop i=s::x.ps.drop (i+1):=by
   rw [JM hlt];congr 1;rw [JC hlt]at hs;exact JQ hs
  have hsz:(s.extract at' s.size).size=s.size-at':=by rw [zpu,zgf s at' (by omega),Jb,zac]
  rw [hd,zz3 (by omega)]at i1 i2;rw [hsz];have hs4:=x.h3 s (JN hs);have e2:(if((s.size-at':Nat):Int)<k then((s.size-at':Nat):Int)else k)=(min (s.size-at') k:Nat):=by omega
  rw [e2,JE];have e3:bl ((s.extract at' s.size).extract 0 (min (s.size-at') k))=((bl s).drop at').take (min (s.size-at') k):=by rw [zfw,zgf s at' (by omega),Jm]
  have e4:((s.extract at' s.size).extract 0 (min (s.size-at') k)).size=min (s.size-at') k:=by rw [zpu,e3,Jh,Jb,zac];omega
  rw [e4];have e5:w64 ((k:Int)-(min (s.size-at') k:Nat))=((k-min (s.size-at') k:Nat):Int):=by rw [zad (by omega)];omega
  have e6:w64 ((i:Int)+1)=((i+1:Nat):Int):=by rw [zad (by have:=x.ps_le;omega)];rfl
  rw [e5,e6];rw [JH,Jb,zac]at i1;refine⟨⟨by omega,by omega⟩,⟨by omega,by omega⟩,⟨by omega,by omega⟩,λu' hu'=>⟨(k-min (s.size-at') k,0,i+1,u'),rfl,drp,⟨by simp only;omega,?_,?_,λy hy=>x.h0 y (JN hy)⟩,by simp only;omega⟩⟩
  ·simp only [Jm];omega
  ·simp only [Jm];rw [hu',e3,←i2,JO];congr 1;by_cases hc:s.size-at'≤k
   ·have e7:min (s.size-at') k=((bl s).drop at').length:=by rw [Jb,zac];omega
    rw [e7,QS,List.take_append];congr 1;rw [List.take_of_length_le (by rw [Jb,zac];omega)]
   ·have e7:min (s.size-at') k=k:=by omega
    rw [e7,Nat.sub_self,List.take_zero,Jj,List.take_append_of_le_length (by rw [Jb,zac];omega)]
 ·have e:k=0:=by omega
  subst e;simp only [List.take_zero,Jj]at i2;rw [i2];exact zd3 x h rfl rfl)⟩
instance c181 [o:Ob wireC cs b x put] {n:Int}:Go1 (fn 181 [.pointer (some (ad b 0)),.int .i64 n] K cs)
  (x.q.length≤1000000000000∧∀x',Wi.q x'=x.q.drop (min n.toNat x.q.length)→x'.eof=x.eof→K (.string (sb (x.q.take (min n.toNat x.q.length)))) (put (wireC b x'))):=⟨λh=>o.fn1 (wireC b x) rfl λF=>f181 (by
 obtain⟨h3,h⟩:=h;unfold s181;have e:(if(x.q.length:Int)<if 0>n then 0 else n then(x.q.length:Int)else if 0>n then 0 else n)=(min n.toNat x.q.length:Nat):=by omega
 refine go ?_;rw [e];refine⟨⟨by omega,by omega,h3⟩,⟨by omega,by omega,h3⟩,λx' hq he=> ?_⟩;rw [JE]at hq ⊢;refine zci (cs':=bk b 365 [.slice x'.a x'.n x'.c,.int .i64 x'.at_,.int .i64 x'.q.length,.int .i64 x'.sent,.int .i64 x'.read,.bool x'.eof]::x'.ch::F) ?_ (go ?_)
 ·exact Imp.of_sub (l:=[]) (by simp [wireC])
 ·have hh:=h ⟨x'.a,x'.n,x'.c,x'.ps,x'.ch,x'.row,x'.at_,x'.sent,w64 (x'.read+(min n.toNat x.q.length:Nat)),x'.eof,x'.h0,x'.h1,x'.h2,x'.h3⟩ hq he;refine⟨_,?_,hh⟩;exact Imp.of_sub (l:=[]) (by simp [wireC];rfl))⟩
end
@[reducible] def encI:Enc Item 5:=⟨λx=> .bool x.1::List.map (Value.int .u64) (wI x.2),by omega,λ_=>rfl⟩
instance bd416:BdT 416 [(0,1),(1,4)] [.bool false,.int .u64 0,.int .u64 0,.int .u64 0,.int .u64 0]:=⟨by kernel_rfl⟩
def itemV (s:List UInt8):Value:=match gItem s with
 | .error (p,e)=> .tuple ⟨[.agg ⟨encI.f (false,0)⟩,.int .i64 (p:Nat),.int .i64 e]⟩
 | .ok (x,n)=> .tuple ⟨[.agg ⟨encI.f x⟩,.int .i64 (n:Nat),.int .i64 0]⟩
theorem z02 (s:ByteArray):sat s 0=(cAt (bl s) 0:Nat):=zjp s 0
theorem z01 (s:ByteArray):sat s 1=(cAt (bl s) 1:Nat):=zjp s 1
theorem ziz {s:List UInt8} (h0:0<s.length) {r:Res Item} (h:gItem s=r):match r with
  | .error (p,e)=>p≤s.length∧e≠0
  | .ok (x,n)=>0<n∧n≤s.length∧x.2<2 ^ 256∧(x.1=true→x.2=0):=by
 unfold gItem at h;split at h
 ·subst h;exact⟨by omega,by omega,by decide,λ_=>rfl⟩
 ·split at h
  ·subst h;exact⟨by omega,by omega,zcd (by decide),λh=>by cases h⟩
  ·split at h
   ·split at h
    ·rename_i e he;subst h;exact zjw he
    ·rename_i x j hx;subst h
     have:=zjw hx
     exact⟨this.1,this.2.1,this.2.2,λh=>by cases h⟩
   ·split at h
    ·subst h;exact⟨by omega,by decide⟩
    ·split at h
     ·split at h
      ·subst h;exact⟨by omega,by decide⟩
      ·subst h;exact⟨by omega,by omega,zcd (zl1 _ _),λh=>by cases h⟩
     ·subst h;exact⟨by omega,by omega,zcd (zl1 _ _),λh=>by cases h⟩
section
variable {cs:St} {K:Value→SP}
instance c457 {a:Nat}:Go1 (fn 457 [.int .u8 (a:Int)] K cs) (a<256∧K (.agg ⟨wv (sSpan a a)⟩) cs):=⟨λh=>up0 (f457 (by
 unfold s457;exact go λb1=>⟨⟨h.1,h.1⟩,fin h.2⟩))⟩
instance c455L:Go1 (fn 455 [.int .u8 0,.int .u8 255] K cs) (K (.agg ⟨wv (sSpan 0 255)⟩) cs):=⟨λh=>(c455 (a:=0) (b:=255)).h ⟨⟨by decide,by decide⟩,h⟩⟩
instance c441 {s:ByteArray}:Go1 (fn 441 [.string s] K cs) ((0<s.size∧s.size≤1000000000000)∧K (itemV (bl s)) cs):=⟨λh=>up0 (f441 (by
 obtain⟨⟨h1,h2⟩,h⟩:=h;unfold s441;refine go λb1=> ?_;rw [z02,z01];refine go ?_;have q:∀n:Nat,n≠cAt (bl s) 0→¬(cAt (bl s) 0=n):=λn h e=>h e.symm;simp only [Jd,JL,ne_eq];refine⟨by omega,λg1=> ?_,λg1=>⟨λg2=> ?_,λg2=>⟨λg3=>⟨h2,?_⟩,λg3=>⟨λg4=> ?_,λg4=>⟨λg5=>⟨λg6=> ?_,λg6=>⟨by omega,zl1 _ _,?_⟩⟩,λg5=>⟨by omega,zl1 _ _,?_⟩⟩⟩⟩⟩⟩
 ·have g:cAt (bl s) 0=42:=by omega
  have e:itemV (bl s)= .tuple ⟨[.agg ⟨encI.f (true,0)⟩,.int .i64 (1:Nat),.int .i64 0]⟩:=by simp only [itemV,gItem,g,if_true]
  rw [e]at h;refine fin (c':=cs) (keq h ?_);simp only [wv0];rfl
 ·have g:cAt (bl s) 0=63:=by omega
  have e:itemV (bl s)= .tuple ⟨[.agg ⟨encI.f (false,sSpan 0 255)⟩,.int .i64 (1:Nat),.int .i64 0]⟩:=by
   simp only [itemV,gItem,g,if_true];rfl
  rw [e]at h;refine go ?_;exact fin h
 ·have g:cAt (bl s) 0=91:=by omega
  cases hr:zdo (bl s)with
  | error pe=>
   obtain⟨p,e⟩:=pe;have e1:readV (bl s)= .tuple ⟨[.agg ⟨wv 0⟩,.int .i64 (p:Nat),.int .i64 e]⟩:=by simp only [readV,hr]
   have e2:itemV (bl s)= .tuple ⟨[.agg ⟨encI.f (false,0)⟩,.int .i64 (p:Nat),.int .i64 e]⟩:=by
    simp only [itemV,gItem,g,if_true,hr];rfl
   rw [e2]at h;rw [e1];refine go λb2=> ?_;exact fin h
  | ok xj=>
   obtain⟨x,j⟩:=xj;have e1:readV (bl s)= .tuple ⟨[.agg ⟨wv x⟩,.int .i64 (j:Nat),.int .i64 0]⟩:=by simp only [readV,hr]
   have e2:itemV (bl s)= .tuple ⟨[.agg ⟨encI.f (false,x)⟩,.int .i64 (j:Nat),.int .i64 0]⟩:=by
    simp only [itemV,gItem,g,if_true,hr];rfl
   rw [e2]at h;rw [e1];refine go λb2=> ?_;exact fin h
 ·have g:cAt (bl s) 0=93:=by omega
  have e:itemV (bl s)= .tuple ⟨[.agg ⟨encI.f (false,0)⟩,.int .i64 (0:Nat),.int .i64 2]⟩:=by
   simp only [itemV,gItem,g,if_true];rfl
  rw [e]at h;refine fin (c':=cs) (keq h ?_);simp only [wv0];rfl
 ·have g:cAt (bl s) 0=37:=by omega
  have g7:s.size=1:=by omega
  have e:itemV (bl s)= .tuple ⟨[.agg ⟨encI.f (false,0)⟩,.int .i64 (1:Nat),.int .i64 3]⟩:=by
   simp only [itemV,gItem,g,zac,g7,if_true];rfl
  rw [e]at h;refine fin (c':=cs) (keq h ?_);simp only [wv0];rfl
 ·have g:cAt (bl s) 0=37:=by omega
  have g7:¬s.size=1:=by omega
  have e:itemV (bl s)= .tuple ⟨[.agg ⟨encI.f (false,sSpan (cAt (bl s) 1) (cAt (bl s) 1))⟩,.int .i64 (2:Nat),.int .i64 0]⟩:=by
   simp only [itemV,gItem,g,zac,g7,if_true,if_false];rfl
  rw [e]at h;refine go ?_;exact fin h
 ·have q1:¬cAt (bl s) 0=42:=by omega
  have q2:¬cAt (bl s) 0=63:=by omega
  have q3:¬cAt (bl s) 0=91:=by omega
  have q4:¬cAt (bl s) 0=93:=by omega
  have q5:¬cAt (bl s) 0=37:=by omega
  have e:itemV (bl s)= .tuple ⟨[.agg ⟨encI.f (false,sSpan (cAt (bl s) 0) (cAt (bl s) 0))⟩,.int .i64 (1:Nat),.int .i64 0]⟩:=by
   simp only [itemV,gItem,q1,q2,q3,q4,q5,if_false]
  rw [e]at h;refine go ?_;exact fin h))⟩
instance c428 {s:ByteArray}:Go1 (fn 428 [.string s] K cs) (s.size≤1000000000000∧(∀p e,zo4 (bl s)= .error (p,e)→K (.tuple ⟨[.slice none 0 0,.int .i64 (p:Nat),.int .i64 e]⟩) cs)∧
  ∀l,zo4 (bl s)= .ok l→∀a c ch,Row 416 5 a l.length c encI l ch→K (.tuple ⟨[.slice a l.length c,.int .i64 0,.int .i64 0]⟩) (ch::cs)):=⟨λh=>up0 (f428 (by
 obtain⟨h2,he,hk⟩:=h;unfold s428;refine lp (λy:Option Addr×Nat×Chunk×List Item×Nat×Nat=>[.slice y.1 y.2.2.2.1.length y.2.1,.int .i64 y.2.2.2.2.1]) (λy=>y.2.2.1::cs)
  (λy=>Row 416 5 y.1 y.2.2.2.1.length y.2.1 encI y.2.2.2.1 y.2.2.1∧y.2.2.2.2.1≤s.size∧y.2.2.2.1.length≤60∧s.size+1≤y.2.2.2.2.2+y.2.2.2.2.1∧gGo (bl s) y.2.2.2.2.2 y.2.2.2.1 y.2.2.2.2.1=zo4 (bl s)) (λy=>s.size-y.2.2.2.2.1)
  (none,0,[],[],0,s.size+1) rfl drp ⟨⟨Sl.nil⟩,JJ _,JJ _,by simp only;omega,rfl⟩ ?_
 rintro⟨a,c,ch,l,k,f⟩ ⟨r,h3,h4,h5,h6⟩;dsimp only at *;refine go ?_;simp only [JD,JB,Jd,JL,ne_eq,JE];obtain⟨f',rfl⟩:∃f',f=f'+1:=⟨f-1,by omega⟩;unfold gGo at h6;have hx:bl (s.extract k s.size)=(bl s).drop k:=zgf s k h3;have hs:(s.extract k s.size).size=s.size-k:=by rw [zpu,hx,Jb,zac]
 rw [hx,hs];refine⟨λc0=>⟨λc1=> ?_,λc1=>⟨by omega,by omega,?_⟩⟩,λc0=> ?_⟩
 ·have g1:k<(bl s).length:=by rw [zac];omega
  have g2:l.length=60:=by omega
  simp only [g1,g2,if_true]at h6;exact fin (he k 4 h6.symm)
 ·have g1:k<(bl s).length:=by rw [zac];omega
  have g2:¬l.length=60:=by omega
  simp only [g1,g2,if_true,if_false]at h6;have hpos:0<((bl s).drop k).length:=by rw [Jb];omega
  cases hi:gItem ((bl s).drop k)with
  | error pe=>
   obtain⟨p,e⟩:=pe;obtain⟨b1,b2⟩:=ziz hpos hi;rw [Jb,zac]at b1;simp only [hi]at h6;have e1:itemV ((bl s).drop k)= .tuple ⟨[.agg ⟨encI.f (false,0)⟩,.int .i64 (p:Nat),.int .i64 e]⟩:=by simp only [itemV,hi]
   rw [e1];refine go λb3=>⟨λ_=> ?_,λc2=> ?_⟩
   ·have w1:w64 ((k:Int)+p)=((k+p:Nat):Int):=by rw [zad (by omega)];rfl
    rw [w1];exact fin (he _ _ h6.symm)
   ·exact absurd (by simpa using c2) b2
  | ok xn=>
   obtain⟨x,n⟩:=xn;obtain⟨b1,b2,b3,b4⟩:=ziz hpos hi;rw [Jb,zac]at b2;simp only [hi]at h6;have e1:itemV ((bl s).drop k)= .tuple ⟨[.agg ⟨encI.f x⟩,.int .i64 (n:Nat),.int .i64 0]⟩:=by simp only [itemV,hi]
   rw [e1];have w1:w64 ((k:Int)+n)=((k+n:Nat):Int):=by rw [zad (by omega)];rfl
   refine go λb5=>⟨λc2=>(by simp at c2),λ_=> ?_⟩;rw [w1];refine⟨⟨by decide,by omega,by omega⟩,x,rfl,λa' c' ch' r'=>⟨(a',c',ch',l++[x],k+n,f'),?_,drp,⟨?_,by simp only;omega,by simp;omega,by simp only;omega,h6⟩,by simp only;omega⟩⟩
   ·simp
   ·simpa using r'
 ·have g1:¬k<(bl s).length:=by rw [zac];omega
  simp only [g1,if_false]at h6;exact fin (hk l h6.symm a c ch r)))⟩
end
end Go.Proofs.YtbjlfobjngogkaaGreatDoor
namespace Go.Proofs.YtbjlfobjngogkaaGreatDoor
open Go
variable {K:Value→SP} {cs:St}
@[reducible] def s45 (x0:Option Addr) (y0:Nat) (z0:Nat) (x1:Value) (K:Value→SP):SP:=
 fn 110 [.slice x0 y0 z0,x1]<|uI .i64 λa=>K (.bool (decide (a≥0)))
theorem f45 {x0:Option Addr} {y0 z0:Nat} {x1:Value} (h:s45 x0 y0 z0 x1 K cs):fn 45 [.slice x0 y0 z0,x1] K cs:=fO (an:=⟨[],[]⟩) Tryz.func45 h
@[reducible] def s110 (x0:Option Addr) (y0:Nat) (z0:Nat) (x1:Value) (K:Value→SP):SP:=
 Lp (λb c=>unI .i64 (c.headD undef) λa=>br (decide (a<(y0:Int))) (ix 30 (.slice x0 y0 z0) (a) λd=>ldA 101 (d) λe=>cv (x1) [.agg (.mk e)]<|uB λf=>br (f) (K (.int .i64 a))<|b [.int .i64 (w64 (a+1))])<|K (.int .i64 (-1))) [.int .i64 0]
theorem f110 {x0:Option Addr} {y0 z0:Nat} {x1:Value} (h:s110 x0 y0 z0 x1 K cs):fn 110 [.slice x0 y0 z0,x1] K cs:=fO (an:=⟨[(2,[(8,.int .i64)])],[]⟩) Tryz.func110 h
@[reducible] def s140 (x0:Option Addr) (y0:Nat) (z0:Nat) (K:Value→SP):SP:=
 br (x0.isNone) (K (.slice none 0 0))<|sm (Instr.buildSlice 43 0 (Array.mk []))<|uL λa b c=>sm (Builtin.append_ (Array.mk [43,43]) 43 (Array.mk [.slice a b c,.slice x0 y0 z0]))<|uL λd e f=>K (.slice d e f)
theorem f140 {x0:Option Addr} {y0 z0:Nat} (h:s140 x0 y0 z0 K cs):fn 140 [.slice x0 y0 z0] K cs:=fO (an:=⟨[],[]⟩) Tryz.func140 h
@[reducible] def s141 (x0:Option Addr) (y0:Nat) (z0:Nat) (K:Value→SP):SP:=
 br (x0.isNone) (K (.slice none 0 0))<|sm (Instr.buildSlice 95 0 (Array.mk []))<|uL λa b c=>sm (Builtin.append_ (Array.mk [95,95]) 95 (Array.mk [.slice a b c,.slice x0 y0 z0]))<|uL λd e f=>K (.slice d e f)
theorem f141 {x0:Option Addr} {y0 z0:Nat} (h:s141 x0 y0 z0 K cs):fn 141 [.slice x0 y0 z0] K cs:=fO (an:=⟨[],[]⟩) Tryz.func141 h
@[reducible] def s182 (x0:Option Addr) (y0:Nat) (z0:Nat) (x1:Value) (K:Value→SP):SP:=
 fn 273 [.slice x0 y0 z0,x1]<|uI .i64 λc=>br (c == -1) (K (.slice x0 y0 z0))<|Lp (λd e=>unI .i64 (e.headD undef) λa=>unI .i64 (e.tail.headD undef) λb=>br (decide (b<(y0:Int))) (ix 34 (.slice x0 y0 z0) (b) λg=>ldI .i64 3 (g) λf=>cv (x1) [.int .i64 f]<|uB λh=>br (!h) (ix 34 (.slice x0 y0 z0) (a) λi=>st 3 (i) (.int .i64 f)<|d [.int .i64 (w64 (a+1)),.int .i64 (w64 (b+1))])<|d [.int .i64 a,.int .i64 (w64 (b+1))])<|qy (Instr.sliceAt 34 (.slice x0 y0 z0) (some (.int .i64 a)) none none)<|uL λj k l=>sm (Builtin.clear_ (Array.mk [34]) 0 (Array.mk [.slice j k l]))<|uV λ_=>qy (Instr.sliceAt 34 (.slice x0 y0 z0) none (some (.int .i64 a)) none)<|uL λm n o=>K (.slice m n o)) [.int .i64 c,.int .i64 (w64 (c+1))]
theorem f182 {x0:Option Addr} {y0 z0:Nat} {x1:Value} (h:s182 x0 y0 z0 x1 K cs):fn 182 [.slice x0 y0 z0,x1] K cs:=fO (an:=⟨[(5,[(5,.int .i64),(6,.int .i64)])],[]⟩) Tryz.func182 h
@[reducible] def s219 (x0:Option Addr) (y0:Nat) (z0:Nat) (x1:Value) (K:Value→SP):SP:=
 fn 313 [.slice x0 y0 z0,x1]<|uI .i64 λa=>K (.bool (decide (a≥0)))
theorem f219 {x0:Option Addr} {y0 z0:Nat} {x1:Value} (h:s219 x0 y0 z0 x1 K cs):fn 219 [.slice x0 y0 z0,x1] K cs:=fO (an:=⟨[],[]⟩) Tryz.func219 h
@[reducible] def s227 (x0:Option Addr) (y0:Nat) (z0:Nat) (x1:Int) (K:Value→SP):SP:=
 Lp (λb c=>unI .i64 (c.headD undef) λa=>br (decide (a<(y0:Int))) (ix 34 (.slice x0 y0 z0) (a) λd=>ldI .i64 3 (d) λe=>br (x1 == e) (K (.int .i64 a))<|b [.int .i64 (w64 (a+1))])<|K (.int .i64 (-1))) [.int .i64 0]
theorem f227 {x0:Option Addr} {y0 z0:Nat} {x1:Int} (h:s227 x0 y0 z0 x1 K cs):fn 227 [.slice x0 y0 z0,.int .i64 x1] K cs:=fO (an:=⟨[(2,[(8,.int .i64)])],[]⟩) Tryz.func227 h
@[reducible] def s270 (x0:Option Addr) (y0:Nat) (z0:Nat) (x1:Int) (K:Value→SP):SP:=
 fn 227 [.slice x0 y0 z0,.int .i64 x1]<|uI .i64 λa=>K (.bool (decide (a≥0)))
theorem f270 {x0:Option Addr} {y0 z0:Nat} {x1:Int} (h:s270 x0 y0 z0 x1 K cs):fn 270 [.slice x0 y0 z0,.int .i64 x1] K cs:=fO (an:=⟨[],[]⟩) Tryz.func270 h
@[reducible] def s273 (x0:Option Addr) (y0:Nat) (z0:Nat) (x1:Value) (K:Value→SP):SP:=
 Lp (λb c=>unI .i64 (c.headD undef) λa=>br (decide (a<(y0:Int))) (ix 34 (.slice x0 y0 z0) (a) λd=>ldI .i64 3 (d) λe=>cv (x1) [.int .i64 e]<|uB λf=>br (f) (K (.int .i64 a))<|b [.int .i64 (w64 (a+1))])<|K (.int .i64 (-1))) [.int .i64 0]
theorem f273 {x0:Option Addr} {y0 z0:Nat} {x1:Value} (h:s273 x0 y0 z0 x1 K cs):fn 273 [.slice x0 y0 z0,x1] K cs:=fO (an:=⟨[(2,[(8,.int .i64)])],[]⟩) Tryz.func273 h
@[reducible] def s313 (x0:Option Addr) (y0:Nat) (z0:Nat) (x1:Value) (K:Value→SP):SP:=
 Lp (λb c=>unI .i64 (c.headD undef) λa=>br (decide (a<(y0:Int))) (ix 144 (.slice x0 y0 z0) (a) λd=>ldS 9 (d) λe=>cv (x1) [.string e]<|uB λf=>br (f) (K (.int .i64 a))<|b [.int .i64 (w64 (a+1))])<|K (.int .i64 (-1))) [.int .i64 0]
theorem f313 {x0:Option Addr} {y0 z0:Nat} {x1:Value} (h:s313 x0 y0 z0 x1 K cs):fn 313 [.slice x0 y0 z0,x1] K cs:=fO (an:=⟨[(2,[(8,.int .i64)])],[]⟩) Tryz.func313 h
@[reducible] def s320 (x0:Option Addr) (y0:Nat) (z0:Nat) (x1:Value) (K:Value→SP):SP:=
 Lp (λb c=>unI .i64 (c.headD undef) λa=>br (decide (a<(y0:Int))) (ix 176 (.slice x0 y0 z0) (a) λd=>ldA 276 (d) λe=>cv (x1) [.agg (.mk e)]<|uB λf=>br (f) (K (.int .i64 a))<|b [.int .i64 (w64 (a+1))])<|K (.int .i64 (-1))) [.int .i64 0]
theorem f320 {x0:Option Addr} {y0 z0:Nat} {x1:Value} (h:s320 x0 y0 z0 x1 K cs):fn 320 [.slice x0 y0 z0,x1] K cs:=fO (an:=⟨[(2,[(8,.int .i64)])],[]⟩) Tryz.func320 h
@[reducible] def s387 (x0:Option Addr) (y0:Nat) (z0:Nat) (K:Value→SP):SP:=
 br (x0.isNone) (K (.slice none 0 0))<|sm (Instr.buildSlice 144 0 (Array.mk []))<|uL λa b c=>sm (Builtin.append_ (Array.mk [144,144]) 144 (Array.mk [.slice a b c,.slice x0 y0 z0]))<|uL λd e f=>K (.slice d e f)
theorem f387 {x0:Option Addr} {y0 z0:Nat} (h:s387 x0 y0 z0 K cs):fn 387 [.slice x0 y0 z0] K cs:=fO (an:=⟨[],[]⟩) Tryz.func387 h
@[reducible] def s397 (x0:Option Addr) (y0:Nat) (z0:Nat) (x1:Option Addr) (y1:Nat) (z1:Nat) (K:Value→SP):SP:=
 br ((y0:Int) != (y1:Int)) (K (.bool false))<|Lp (λb c=>unI .i64 (c.headD undef) λa=>br (decide (a<(y0:Int))) (ix 95 (.slice x0 y0 z0) (a) λd=>ldA 146 (d) λe=>ix 95 (.slice x1 y1 z1) (a) λf=>ldA 146 (f) λg=>qy (bsem BinOp.neq 146 (Operand.tmp 19) (Operand.tmp 23) (.agg (.mk e)) (.agg (.mk g)))<|uB λh=>br (h) (K (.bool false))<|b [.int .i64 (w64 (a+1))])<|K (.bool true)) [.int .i64 0]
theorem f397 {x0:Option Addr} {y0 z0:Nat} {x1:Option Addr} {y1 z1:Nat} (h:s397 x0 y0 z0 x1 y1 z1 K cs):fn 397 [.slice x0 y0 z0,.slice x1 y1 z1] K cs:=fO (an:=⟨[(4,[(13,.int .i64)])],[]⟩) Tryz.func397 h
@[reducible] def s459 (x0:Option Addr) (y0:Nat) (z0:Nat) (x1:Value) (K:Value→SP):SP:=
 fn 470 [.slice x0 y0 z0,x1]<|uI .i64 λa=>K (.bool (decide (a≥0)))
theorem f459 {x0:Option Addr} {y0 z0:Nat} {x1:Value} (h:s459 x0 y0 z0 x1 K cs):fn 459 [.slice x0 y0 z0,x1] K cs:=fO (an:=⟨[],[]⟩) Tryz.func459 h
@[reducible] def s470 (x0:Option Addr) (y0:Nat) (z0:Nat) (x1:Value) (K:Value→SP):SP:=
 Lp (λb c=>unI .i64 (c.headD undef) λa=>br (decide (a<(y0:Int))) (ix 246 (.slice x0 y0 z0) (a) λd=>ldA 416 (d) λe=>cv (x1) [.agg (.mk e)]<|uB λf=>br (f) (K (.int .i64 a))<|b [.int .i64 (w64 (a+1))])<|K (.int .i64 (-1))) [.int .i64 0]
theorem f470 {x0:Option Addr} {y0 z0:Nat} {x1:Value} (h:s470 x0 y0 z0 x1 K cs):fn 470 [.slice x0 y0 z0,x1] K cs:=fO (an:=⟨[(2,[(8,.int .i64)])],[]⟩) Tryz.func470 h
@[reducible] def s267 (x0:Option Addr) (y0:Nat) (z0:Nat) (K:Value→SP):SP:=
 Lp (λc d=>unI .i64 (d.headD undef) λa=>br (decide (a<(y0:Int))) (ix 34 (.slice x0 y0 z0) (a) λe=>ldI .i64 3 (e) λb=>br (b != 0) (K (.int .i64 b))<|c [.int .i64 (w64 (a+1))])<|K (.int .i64 0)) [.int .i64 0]
theorem f267 {x0:Option Addr} {y0 z0:Nat} (h:s267 x0 y0 z0 K cs):fn 267 [.slice x0 y0 z0] K cs:=fO (an:=⟨[(3,[(8,.int .i64)])],[]⟩) Tryz.func267 h
@[reducible] def s268 (x0:Int) (x1:Int) (K:Value→SP):SP:=
 fn 350 [.int .i64 x0]<|uB λb=>fn 350 [.int .i64 x1]<|uB λa=>br (b) (br (a) (K (.int .i64 0))<|K (.int .i64 (-1)))<|br (a) (K (.int .i64 1))<|br (decide (x0<x1)) (K (.int .i64 (-1)))<|br (decide (x0>x1)) (K (.int .i64 1))<|K (.int .i64 0)
theorem f268 {x0 x1:Int} (h:s268 x0 x1 K cs):fn 268 [.int .i64 x0,.int .i64 x1] K cs:=fO (an:=⟨[],[]⟩) Tryz.func268 h
@[reducible] def s269 (x0:Int) (x1:Int) (K:Value→SP):SP:=
 fn 351 [.int .i64 x0]<|uB λb=>fn 351 [.int .i64 x1]<|uB λa=>br (b) (br (a) (K (.int .i64 0))<|K (.int .i64 (-1)))<|br (a) (K (.int .i64 1))<|br (decide (x0<x1)) (K (.int .i64 (-1)))<|br (decide (x0>x1)) (K (.int .i64 1))<|K (.int .i64 0)
theorem f269 {x0 x1:Int} (h:s269 x0 x1 K cs):fn 269 [.int .i64 x0,.int .i64 x1] K cs:=fO (an:=⟨[],[]⟩) Tryz.func269 h
@[reducible] def s350 (x0:Int) (K:Value→SP):SP:=
 K (.bool (x0 != x0))
theorem f350 {x0:Int} (h:s350 x0 K cs):fn 350 [.int .i64 x0] K cs:=fO (an:=⟨[],[]⟩) Tryz.func350 h
@[reducible] def s351 (x0:Int) (K:Value→SP):SP:=
 K (.bool (x0 != x0))
theorem f351 {x0:Int} (h:s351 x0 K cs):fn 351 [.int .i64 x0] K cs:=fO (an:=⟨[],[]⟩) Tryz.func351 h
@[reducible] def s288 (x0:Int) (x1:Int) (K:Value→SP):SP:=
 K (.tuple (Array.mk [.int .u64 (IntKind.wrap .u64 (IntKind.wrap .u64 (IntKind.wrap .u64 (x0.fdiv 4294967296*x1.fdiv 4294967296)+(IntKind.wrap .u64 (IntKind.wrap .u64 (x0.fdiv 4294967296*IntKind.wrap .u64 ↑(BitVec.ofInt 64 x1&&&BitVec.ofInt 64 4294967295).toNat)+(IntKind.wrap .u64 (IntKind.wrap .u64 ↑(BitVec.ofInt 64 x0&&&BitVec.ofInt 64 4294967295).toNat*IntKind.wrap .u64 ↑(BitVec.ofInt 64 x1&&&BitVec.ofInt 64 4294967295).toNat)).fdiv 4294967296)).fdiv 4294967296)+(IntKind.wrap .u64 (IntKind.wrap .u64 ↑(BitVec.ofInt 64 (IntKind.wrap .u64 (IntKind.wrap .u64 (x0.fdiv 4294967296*IntKind.wrap .u64 ↑(BitVec.ofInt 64 x1&&&BitVec.ofInt 64 4294967295).toNat)+(IntKind.wrap .u64 (IntKind.wrap .u64 ↑(BitVec.ofInt 64 x0&&&BitVec.ofInt 64 4294967295).toNat*IntKind.wrap .u64 ↑(BitVec.ofInt 64 x1&&&BitVec.ofInt 64 4294967295).toNat)).fdiv 4294967296))&&&BitVec.ofInt 64 4294967295).toNat+IntKind.wrap .u64 (IntKind.wrap .u64 ↑(BitVec.ofInt 64 x0&&&BitVec.ofInt 64 4294967295).toNat*x1.fdiv 4294967296))).fdiv 4294967296)),.int .u64 (IntKind.wrap .u64 (x0*x1))]))
theorem f288 {x0 x1:Int} (h:s288 x0 x1 K cs):fn 288 [.int .u64 x0,.int .u64 x1] K cs:=fO (an:=⟨[],[]⟩) Tryz.func288 h
end Go.Proofs.YtbjlfobjngogkaaGreatDoor
namespace Go.Proofs.YtbjlfobjngogkaaGreatDoor
open Go
set_option synthInstance.maxSize 100000
set_option synthInstance.maxHeartbeats 1000000
set_option maxRecDepth 100000
theorem z10:∃i,Tryz.prog.info? 396=some i∧i.size=1:=by
 have h:(Tryz.prog.info? 396).map (·.size)=some 1:=by kernel_rfl
 cases hi:Tryz.prog.info? 396 with
 | none=>rw [hi]at h;cases h
 | some i=>rw [hi]at h;exact⟨i,rfl,JQ h⟩
theorem zyl:Tryz.prog.eqGuardType Tryz.prog.depth 412=false:=by kernel_rfl
theorem zy4:Tryz.prog.cellsOf 396=1:=by kernel_rfl
theorem zrv:Tryz.prog.plainKey 396=true:=by kernel_rfl
theorem zn1 {w:World} (s t:Nat):∀(is:List Nat),(∀i∈is,i<4)→(Op.eqItems 9999 396 1 ⟨wv s⟩ ⟨wv t⟩ is).run Tryz.prog w= .ok (is.all λi=>wN s i == wN t i) w
 | [],_=>by simp [Op.eqItems]
 | i::is,h=>by
  have hi:=h i (by simp);have g:∀s,(⟨wv s⟩:Array Value)[i*1]? =some (.int .u64 (wN s i:Nat)):=λs=>by
   match i,hi with
   | 0,_=>rfl
   | 1,_=>rfl
   | 2,_=>rfl
   | 3,_=>rfl
  have e:=run_equalIn_int (P:=Tryz.prog) (w:=w) 9998 396 .u64 .u64 (wN s i:Nat) (wN t i:Nat) Tryz.underlying396;simp only [Op.eqItems,Sem.run_bind,run_part_plain w zrv (g s),run_part_plain w zrv (g t),Result.andThen_ok];rw [e];have ih:=zn1 (w:=w) s t is λj hj=>h j (by simp [hj]);by_cases hc:wN s i=wN t i
  ·simp [hc,ih]
  ·have:¬((wN s i:Nat):Int)=((wN t i:Nat):Int):=by omega
   simp [hc,this]
theorem z2l {s t:Nat} (hs:s<2 ^ 256) (ht:t<2 ^ 256):((List.range 4).all λi=>wN s i == wN t i)=(s == t):=by
 rw [Bool.eq_iff_iff];simp only [List.all_eq_true,List.mem_range,Jd];refine⟨λh=> ?_,λh i _=>by rw [h]⟩;apply Nat.eq_of_testBit_eq;intro j;by_cases hj:j<256
 ·have h1:=zgl s (j / 64) (j % 64);have h2:=zgl t (j / 64) (j % 64);rw [h (j / 64) (by omega),h2]at h1;have e:64*(j / 64)+j % 64=j:=by omega
  have h3:j % 64<64:=Nat.mod_lt _ (by decide);rw [e]at h1;simpa [h3]using h1.symm
 ·rw [Nat.testBit_lt_two_pow (QY hs (Nat.pow_le_pow_right (by decide) (by omega))),Nat.testBit_lt_two_pow (QY ht (Nat.pow_le_pow_right (by decide) (by omega)))]
section
variable {cs:St} {K:Value→SP}
instance neqSet {x y:Operand} {s t:Nat}:Go1 (qy (bsem .neq 412 x y (.agg ⟨wv s⟩) (.agg ⟨wv t⟩)) K cs) ((s<2 ^ 256∧t<2 ^ 256)∧K (.bool (s != t)) cs):=⟨λ⟨⟨hs,ht⟩,h⟩=>by
 obtain⟨i,hi,_⟩:=z10;refine⟨_,λE w _=> ?_,h⟩;simp only [bsem,Sem.run_bind,run_eqGuard_agg (P:=Tryz.prog) w .neq 412 x y _ _ zyl,Result.andThen_ok];rw [run_neq_struct];have e:=run_equalIn_array (P:=Tryz.prog) w 9999 (t:=412) (e:=396) (n:=4) (i:=i) ⟨wv s⟩ ⟨wv t⟩ Tryz.underlying412 hi;rw [zy4,zn1 s t _ (λi hi=>List.mem_range.1 hi),z2l hs ht]at e;rw [e];rfl⟩
theorem cv_fn {f:Nat} {args:List Value} (h:fn f args K cs):cv (.func (.func f) ⟨[]⟩ ⟨[]⟩) args K cs:=⟨f,⟨[]⟩,⟨[]⟩,rfl,by simpa [fn]using h⟩
instance {f:Nat} {args:List Value}:Go1 (cv (.func (.func f) ⟨[]⟩ ⟨[]⟩) args K cs) (fn f args K cs):=⟨cv_fn⟩
class PredF (f:Nat) (p:outParam (Item→Bool)):Prop where
 h:∀{K:Value→SP} {cs:St} {x:Item},x.2<2 ^ 256→K (.bool (p x)) cs→fn f [.agg ⟨encI.f x⟩] K cs
instance pr469:PredF 469 oddI:=⟨λ{K cs x} hx h=>up0 (f469 (by
 obtain⟨r,t⟩:=x;unfold s469;refine go λb1=>⟨λg=> ?_,λg=> ?_⟩
 ·refine⟨⟨hx,by decide⟩,?_⟩;have e:oddI (r,t)=(t != 0):=by
   have g':r=true:=g;simp only [oddI,g',Bool.true_and]
  rw [e]at h;exact fin h
 ·have e:oddI (r,t)=false:=by
   have g':r=false:=g;simp only [oddI,g',Bool.false_and]
  rw [e]at h;exact fin h))⟩
instance pr460:PredF 460 (λx=> !x.1):=⟨λ{K cs x} hx h=>up0 (f460 (by
 unfold s460;exact go λb1=>fin h))⟩
section
variable {a:Option Addr} {n c:Nat} {l:List Item}
theorem c470 {f:Nat} {p:Item→Bool} (q:PredF f p) [r:Rw 416 5 cs a n c encI l] (hl:∀x∈l,x.2<2 ^ 256) (hn:n<1000000000000) (h:K (.int .i64 (if l.any p then(l.findIdx p:Nat)else -1)) cs):fn 470 [.slice a n c,.func (.func f) ⟨[]⟩ ⟨[]⟩] K cs:=f470 (by
 unfold s470;have hlen:=r.h.len;refine lp (λk:Nat=>[.int .i64 k]) (λ_=>cs) (λk=>k≤n∧∀x∈l.take k,p x=false) (λk=>n-k) 0 rfl (Imp.refl _) ⟨JJ _,by simp⟩ ?_;rintro k ⟨h1,h2⟩;dsimp only at *;refine go ?_;simp only [JD,JB,JE];refine⟨λc0=>⟨by omega,λx hx=> ?_⟩,λc0=> ?_⟩
 ·refine q.h (hl x (JN hx)) ?_;have hk:k<l.length:=by omega
  have hx2:l[k]=x:=by rw [JC hk]at hx;exact JQ hx
  refine go ⟨λc1=> ?_,λc1=>⟨k+1,by rw [zad (by omega)];rfl,Imp.refl _,⟨by omega,λy hy=> ?_⟩,by omega⟩⟩
  ·have e1:l.any p=true:=List.any_eq_true.2 ⟨x,JN hx,c1⟩;have e2:l.findIdx p=k:=by
    rw [List.findIdx_eq hk];refine⟨by rw [hx2];exact c1,λj hj=> ?_⟩;exact h2 _ (List.mem_take_iff_getElem.2 ⟨j,by omega,rfl⟩)
   rw [e1,e2]at h;exact h
  ·rw [JZ hk,hx2]at hy;rcases JX.1 hy with hy | hy
   ·exact h2 y hy
   ·simp at hy;subst hy;exact c1
 ·have e1:l.any p=false:=by
   rw [List.any_eq_false];intro x hx
   have:l.take k=l:=List.take_of_length_le (by omega)
   rw [←this]at hx;simp [h2 x hx]
  rw [e1]at h;exact h)
instance c459 {f:Nat} {p:Item→Bool} [q:PredF f p] [r:Rw 416 5 cs a n c encI l]:Go1 (fn 459 [.slice a n c,.func (.func f) ⟨[]⟩ ⟨[]⟩] K cs) (((∀x∈l,x.2<2 ^ 256)∧n<1000000000000)∧K (.bool (l.any p)) cs):=⟨λh=>f459 (by
 unfold s459;refine c470 q (l:=l) h.1.1 h.1.2 (go (keq h.2 ?_));congr 1;cases l.any p <;>simp)⟩
instance c458 [r:Rw 416 5 cs a n c encI l]:Go1 (fn 458 [.slice a n c] K cs) (((∀x∈l,x.2<2 ^ 256)∧n<1000000000000)∧K (.bool (goodI l)) cs):=⟨λh=>f458 (by
 unfold s458;have hlen:=r.h.len;refine go ⟨λc0=>⟨h.1,keq h.2 ?_⟩,λc0=>keq h.2 ?_⟩
 ·simp only [JD]at c0
  have:l.length≤60:=by omega
  simp only [goodI,this,decide_true,Bool.true_and]
 ·simp only [JB]at c0
  have:¬l.length≤60:=by omega
  simp only [goodI,this,decide_false,Bool.false_and])⟩
instance c442 [r:Rw 416 5 cs a n c encI l]:Go1 (fn 442 [.slice a n c] K cs) (((∀x∈l,x.2<2 ^ 256)∧n<1000000000000)∧K (.bool (goodI l)) cs):=⟨λh=>f442 (by unfold s442;exact go h)⟩
instance c443 [r:Rw 416 5 cs a n c encI l]:Go1 (fn 443 [.slice a n c] K cs) (((∀x∈l,x.2<2 ^ 256)∧n<1000000000000)∧K (.bool (zse l)) cs):=⟨λh=>f443 (by unfold s443;exact go h)⟩
end
end
def tabC (b:Nat) (x:Int×Int×List Int):Chunk:=bk b 534 (.int .i64 x.1:: .int .u64 x.2.1::List.map (Value.int .u64) x.2.2)
section
variable {cs:St} {b:Nat} {n r:Int} {l:List Int} {put:Chunk→St}
instance tabRd [o:Ob tabC cs b (n,r,l) put]:RdB cs b 534 (.int .i64 n:: .int .u64 r::List.map (Value.int .u64) l):=⟨by
 obtain⟨i,h,_⟩:=o.h;exact Rd.in h (by simp [tabC,bk])⟩
instance (priority:=5000) tabHas [o:Ob tabC cs b (n,r,l) put] {i:Int} {K:Int→SP}:Go1 (ix 532 (.pointer (some ((ad b 0).add 2))) i (λa=>ldI .u64 396 a K) cs) ((0≤i∧i<256∧i<l.length)∧K (l.getD i.toNat 0) cs):=⟨λh=>by
 obtain⟨⟨h0,h1,h2⟩,h⟩:=h;refine arIxi.h ⟨⟨h0,h1⟩,?_⟩;have hl:i.toNat<l.length:=by omega
 refine qy_rd (tabRd (o:=o)).h (v:= .int .u64 (l.getD i.toNat 0)) ?_ (by kernel_rfl) ⟨_,rfl,h⟩;rw [Nat.add_comm];simp [JA,JC hl]⟩
instance (priority:=5000) tabSet [o:Ob tabC cs b (n,r,l) put] {i v:Int} {K:SP}:Go1 (ix 532 (.pointer (some ((ad b 0).add 2))) i (λa=>st 396 a (.int .u64 v) K) cs) ((0≤i∧i<256∧i<l.length)∧K (put (tabC b (n,r,l.set i.toNat v)))):=⟨λh=>by
 obtain⟨⟨h0,h1,h2⟩,h⟩:=h;refine arIxi.h ⟨⟨h0,h1⟩,?_⟩;obtain⟨k,g1,g2⟩:=o.h;refine st_wr (l:=[.int .u64 v]) rfl (by simp [one]) (by kernel_rfl) ⟨k,534,_,g1,by simp;omega,rfl⟩ ?_;rw [g2]at h;have e:lay (.int .i64 n:: .int .u64 r::List.map (Value.int .u64) l) (2+i.toNat) [.int .u64 v]= .int .i64 n:: .int .u64 r::List.map (Value.int .u64) (l.set i.toNat v):=by
  rw [Nat.add_comm];simp [lay,List.map_set]
 rw [e];exact h⟩
instance tabRuns [o:Ob tabC cs b (n,r,l) put] {v:Int} {K:SP}:Go1 (st 396 ((ad b 0).add 1) (.int .u64 v) K cs) (K (put (tabC b (n,v,l)))):=⟨λh=>by
 obtain⟨k,g1,g2⟩:=o.h;rw [zbd];refine st_wr (l:=[.int .u64 v]) rfl (by simp [one]) (by kernel_rfl) ⟨k,534,_,g1,by simp,rfl⟩ ?_;rw [g2]at h;exact h⟩
end
def zh7 (b:Nat) (l:List Item):Chunk:=tabC b (l.length,(tRuns l:Nat),hasL l l.length)
theorem zeg (l:List Item) (k:Nat):(hasL l k).length=256:=by simp [hasL]
theorem ziy (l:List Item) (k:Nat) {b:Nat} (h:b<256):(hasL l k).getD b 0=(zbh (λx=>sHas x.2 b) l k:Nat):=by
 rw [JA,hasL,JW,List.getElem?_range h];rfl
theorem zvx (l:List Item):hasL l 0=List.replicate 256 0:=by
 apply List.ext_getElem (by simp [zeg]);intro i h1 h2;rw [zeg]at h1
 have:=ziy l 0 h1
 rw [JA,JC (by rw [zeg];exact h1)]at this;rw [List.getElem_replicate];exact this
section
variable {cs:St} {K:Value→SP} {a:Option Addr} {n c:Nat} {l:List Item}
instance c429 [r:Rw 416 5 cs a n c encI l]:Go1 (fn 429 [.slice a n c] K cs) (((∀x∈l,x.2<2 ^ 256)∧n<1000000000000)∧(goodI l=false→K (.tuple ⟨[.pointer none,.int .i64 2]⟩) cs)∧
  ((goodI l=true∧zse l=true)→K (.tuple ⟨[.pointer none,.int .i64 9]⟩) cs)∧((goodI l=true∧zse l=false)→∀b,K (.tuple ⟨[.pointer (some (ad b 0)),.int .i64 0]⟩) (zh7 b l::cs))):=⟨λh=>up0 (f429 (by
 obtain⟨⟨hl,hn⟩,h1,h2,h3⟩:=h;unfold s429;have hlen:=r.h.len;refine go ⟨⟨hl,hn⟩,λg1=> ?_,λg1=>⟨⟨hl,hn⟩,λg2=> ?_,λg2 b=> ?_⟩⟩
 ·exact fin (h1 (by simpa using g1))
 ·exact fin (h2 ⟨by simpa using g1,g2⟩)
 ·have h4:=h3 ⟨by simpa using g1,g2⟩ b;clear h1 h2 h3;have hg:goodI l=true:=by simpa using g1
  have h60:l.length≤60:=by
   simp only [goodI,JT,JD]at hg;exact hg.1
  refine lp (λk:Nat=>[.int .i64 k]) (λk=>tabC b (l.length,(zbh (λx=>x.1) l k:Nat),hasL l k)::cs) (λk=>k≤n) (λk=>n-k) 0 rfl ?_ (JJ _) ?_
  ·rw [zvx,←hlen];exact Imp.refl _
  intro k hk;dsimp only;refine go ?_;simp only [JD,JB,JE];refine⟨λc0=>⟨by omega,λx hx b2=> ?_⟩,λc0=> ?_⟩
  ·have hk64:k<64:=by omega
   rw [za2 (by omega),zuz hk64];refine⟨by omega,?_⟩;have hkl:k<l.length:=by omega
   have hxk:l.getD k (false,0)=x:=by rw [JA,hx];rfl
   have hx2:=hl x (JN hx);have hr:∀p,zbh p l k<18446744073709551616:=λp=>Nat.lt_trans (zhg p l k) (zd9 hk64);refine⟨λ_ c1=>Imp c1 (bk b2 416 (.bool x.1::wv x.2)::tabC b (l.length,(zbh (λx=>x.1) l (k+1):Nat),hasL l k)::cs),λ_ c1 hc=>⟨_,hc,?_⟩,?_⟩
   ·refine lp (λy:Nat×List Int=>[.int .i64 y.1]) (λy=>bk b2 416 (.bool x.1::wv x.2)::tabC b (l.length,(zbh (λx=>x.1) l (k+1):Nat),y.2)::cs)
     (λy=>y.1≤256∧y.2.length=256∧(∀i,i<y.1→y.2.getD i 0=(zbh (λx=>sHas x.2 i) l (k+1):Nat))∧∀i,y.1≤i→i<256→y.2.getD i 0=(zbh (λx=>sHas x.2 i) l k:Nat)) (λy=>256-y.1)
     (0,hasL l k) rfl drp ⟨JJ _,zeg _ _,λi hi=>absurd hi (Nat.not_lt_zero _),λi _ hi=>ziy l k hi⟩ ?_
    rintro⟨m,hl'⟩ ⟨i1,i2,i3,i4⟩;dsimp only at *;refine go ?_;simp only [JD,JB];refine⟨λc2=> ?_,λc2=> ?_⟩
    ·have hm:m<256:=by omega
     rw [w8 hm];have w1:w64 ((m:Int)+1)=((m+1:Nat):Int):=by rw [zad (by omega)];rfl
     rw [w1];refine go ⟨hm,λc3=>⟨by omega,by omega,?_⟩,λc3=> ?_⟩
     ·rw [JE,i4 m (JG _) hm,uor (hr _) (zd9 hk64)];have e1:zbh (λx=>sHas x.2 m) l k|||2 ^ k=zbh (λx=>sHas x.2 m) l (k+1):=by rw [zbh,hxk,if_pos c3]
      rw [e1];refine⟨(m+1,hl'.set m (zbh (λx=>sHas x.2 m) l (k+1):Nat)),rfl,drp,⟨hm,by simp [i2],λi hi=> ?_,λi h1 h2=> ?_⟩,by simp only;omega⟩
      ·by_cases he:i=m
       ·subst he;exact zpx (by omega) _
       ·rw [JA,JS (by omega),←JA];exact i3 i (by simp only at hi;omega)
      ·rw [JA,JS (by simp only at h1;omega),←JA];exact i4 i (by simp only at h1;omega) h2
     ·refine⟨(m+1,hl'),rfl,drp,⟨hm,i2,λi hi=> ?_,λi h1 h2=>i4 i (by simp only at h1;omega) h2⟩,by simp only;omega⟩;by_cases he:i=m
      ·subst he;rw [i4 i (JG _) hm,zbh,hxk,if_neg (by rw [c3];decide)]
      ·exact i3 i (by simp only at hi;omega)
    ·have hm:m=256:=by omega
     subst hm;have e:hl'=hasL l (k+1):=by
      apply List.ext_getElem (by rw [i2,zeg]);intro i h1 h2;have e1:=i3 i (by omega);have e2:=ziy l (k+1) (b:=i) (by omega);rw [JA,JC h1]at e1;rw [JA,JC h2]at e2;exact e1.trans e2.symm
     subst e;exact⟨k+1,by rw [zad (by omega)];rfl,drp,by omega,by omega⟩
   ·refine go ⟨λc1=> ?_,λc1=> ?_⟩
    ·have e1:zbh (λx=>x.1) l (k+1)=zbh (λx=>x.1) l k|||2 ^ k:=by rw [zbh,hxk,if_pos c1]
     rw [e1,uor (hr _) (zd9 hk64)];exact drp
    ·have e1:zbh (λx=>x.1) l (k+1)=zbh (λx=>x.1) l k:=by rw [zbh,hxk,if_neg (by rw [c1];decide)]
     rw [e1];exact drp
  ·have e:k=l.length:=by omega
   subst e;unfold zh7 tRuns at h4;exact fin h4))⟩
end
end Go.Proofs.YtbjlfobjngogkaaGreatDoor
