/- Part of a proof over this seat: contracts of functions and plain laws, joined by program out of smaller texts. Conditions: those that each theorem states. -/
import Derived.Test.YtbjlfobjngogkaaGreatDoorSag
namespace Go.Proofs.YtbjlfobjngogkaaGreatDoor
open Go Go.RowKit Go.ChangeShapes Go.WideShapes Go.ChangeAt
set_option maxRecDepth 100000
theorem zwq {g:FuncId} {f:Func} {s:ChangeSpec} (hp:f.params= #[27]) (hr:f.resultTypes= #[4]) (hv:s.vars=[]) (hs:∀(H:Type) (d:DataW H),s.fn H [d]={results:=[.lit (.bool true)],args:=[d]})
  (walk:∀(W:World) (cells:List Value),StageR (wA W) cells→Glob [wA W]→fn g [.agg ⟨cells⟩] (λv cs=>v= .bool true∧cs=[wA W]) [wA W])
  {H:Type} {enc:TypeId×Value→H} {W:World} {base:Nat} {args:Array Value} {ds gs:List (DataW H)} {before:List MemPlace}
  (hval:∀(j:Nat) t v,f.params[j]? =some t→args[j]? =some v→Value.okWide Tryz.prog W .any base t v)
  (hW:DataW.Whole enc Tryz.prog f.params.toList s.vars false W args.toList ds gs before) (hk:Rows.uptoSmall H (ds++gs)=true) (hg:Glob [wA W]):
  Calls Tryz.prog g args W λe W'=>∃v,e= .returned v∧s.post enc Tryz.prog f false true false false W args v W':=by
 have hW':=hW;obtain⟨p,q,hA,hV,rfl,_,_⟩:=hW;rw [hp]at hA hval;rw [hv]at hV;obtain⟨v0,vs0,d0,ds0,p0,q0,hargs,rfl,rfl,h0,r0⟩:=trodAll_cons hA;obtain⟨rfl,rfl,rfl⟩:=trodAll_nil r0;obtain rfl:args= #[v0]:=by cases args;simp_all
 obtain⟨rfl,rfl⟩:=trodVars_none hV;have hu:∃fs,Tryz.prog.underlying 27=some (.struct fs):=⟨_,(zhm sfT).1⟩;obtain⟨fs,hu⟩:=hu;obtain⟨cs,rfl,_⟩:=okWide_struct hu (hval 0 27 v0 rfl rfl);have h0k:=h0;obtain⟨fuel,h0⟩:=h0;have hb:Rows.uptoBulk d0≤1048576:=by
  have h1:Rows.uptoBulkAll ([d0]++[])≤1048576:=of_decide_eq_true hk;simp only [Jj,Rows.uptoBulkAll]at h1;omega
 have hst:StageR (wA W) cs.toList:=zum (enc:=enc) (W:=W) bulkL fuel _ _ h0 hb;have hlt:∀x∈p0,x.block<W.heap.size:=λx hx=>by simpa using hW'.lt x (by simp [hx])
 have hw:=walk W cs.toList hst hg;refine(hw.calls W W (wA_hs W)).mono λe W' ⟨v,cs',he,hs',hv',hc'⟩=> ?_;subst hc';subst hv';have hbel:=zxa hs';have e1:s.fn H ([d0]++[])={results:=[.lit (.bool true)],args:=[d0]}:=by rw [Jj];exact hs H d0
 refine⟨_,he,_,_,_,[],p0,[],hW',?_,?_,?_,hbel.frame _,λh=>by cases h⟩
 ·rw [e1,hr];exact trodAll_mk1 (shut_bool Tryz.underlying4 true)
 ·rw [e1,hp];exact trodAll_mk1 (Below.trod zyg (by kernel_rfl) (of_decide_eq_true (by kernel_rfl)) h0k hbel hlt)
 ·rw [e1,hv];rfl
end Go.Proofs.YtbjlfobjngogkaaGreatDoor
namespace Go.Proofs.YtbjlfobjngogkaaGreatDoor
open Go
set_option synthInstance.maxSize 100000
set_option synthInstance.maxHeartbeats 1000000
set_option maxRecDepth 100000
theorem low32 {x:Nat} (h:x<18446744073709551616):IntKind.wrap .u64 ((BitVec.ofInt 64 (x:Int)&&&BitVec.ofInt 64 4294967295).toNat:Int)=((x % 4294967296:Nat):Int):=by
 have:=uand (x:=x) (y:=4294967295) h (by omega)
 have e:x&&&4294967295=x % 4294967296:=Nat.and_two_pow_sub_one_eq_mod x 32;rw [e]at this;exact this
theorem zr3 {a b:Nat} (ha:a<4294967296) (hb:b<4294967296):a*b≤4294967295*4294967295:=Nat.mul_le_mul (by omega) (by omega)
section
variable {cs:St} {K:Value→SP}
theorem c288t {x y:Nat} (hx:x<18446744073709551616) (hy:y<18446744073709551616) (h:K (.tuple ⟨[.int .u64 ((x*y / 18446744073709551616:Nat):Int),.int .u64 ((x*y % 18446744073709551616:Nat):Int)]⟩) cs):fn 288 [.int .u64 x,.int .u64 y] K cs:=f288 (by
 unfold s288;refine keq h ?_;rw [low32 hx,low32 hy];have ex:x=x / 4294967296*4294967296+x % 4294967296:=by omega
 have ey:y=y / 4294967296*4294967296+y % 4294967296:=by omega
 have f1:(x:Int).fdiv 4294967296=((x / 4294967296:Nat):Int):=by rw [Int.fdiv_eq_ediv_of_nonneg _ (by omega)];omega
 have f2:(y:Int).fdiv 4294967296=((y / 4294967296:Nat):Int):=by rw [Int.fdiv_eq_ediv_of_nonneg _ (by omega)];omega
 rw [f1,f2];have k1:x / 4294967296<4294967296:=by omega
 have k2:y / 4294967296<4294967296:=by omega
 have k3:x % 4294967296<4294967296:=by omega
 have k4:y % 4294967296<4294967296:=by omega
 have ep:x*y=x / 4294967296*(y / 4294967296)*18446744073709551616+(x / 4294967296*(y % 4294967296)+x % 4294967296*(y / 4294967296))*4294967296+x % 4294967296*(y % 4294967296):=by
  generalize x / 4294967296=a,x % 4294967296=b at ex;generalize y / 4294967296=c,y % 4294967296=d at ey;subst ex ey;rw [Nat.add_mul,Nat.mul_add,Nat.mul_add,Nat.add_mul];have e1:a*4294967296*(c*4294967296)=a*c*18446744073709551616:=by rw [Nat.mul_mul_mul_comm]
  have e2:a*4294967296*d=a*d*4294967296:=Nat.mul_right_comm ..;have e3:b*(c*4294967296)=b*c*4294967296:=(Nat.mul_assoc ..).symm;omega
 have b1:=zr3 k1 k2;have b2:=zr3 k1 k4;have b3:=zr3 k3 k2;have b4:=zr3 k3 k4;have w1:((x:Int)*(y:Int))=((x*y:Nat):Int):=(Qn ..).symm;rw [w1];simp only [←Qn];generalize x*y=p at *;generalize x / 4294967296*(y / 4294967296)=a at *;generalize x / 4294967296*(y % 4294967296)=b at *;generalize x % 4294967296*(y / 4294967296)=c at *;generalize x % 4294967296*(y % 4294967296)=d at *;have g1:∀n:Nat,(n:Int).fdiv 4294967296=((n / 4294967296:Nat):Int):=λn=>by rw [Int.fdiv_eq_ediv_of_nonneg _ (by omega)];omega
 rw [za2 (x:=d) (by omega),g1,za2 (x:=b) (by omega),←Int.natCast_add,za2 (x:=b+d / 4294967296) (by omega),low32 (x:=b+d / 4294967296) (by omega),g1,
  za2 (x:=c) (by omega),←Int.natCast_add,za2 (x:=_+c) (by omega),g1,za2 (x:=a) (by omega),←Int.natCast_add,za2 (x:=a+_) (by omega),←Int.natCast_add,za2 (x:=a+_+_) (by omega),zl3]
 have q1:a+(b+d / 4294967296) / 4294967296+((b+d / 4294967296) % 4294967296+c) / 4294967296=p / 18446744073709551616:=by omega
 have q2:(p:Int) % 18446744073709551616=((p % 18446744073709551616:Nat):Int):=by omega
 rw [q1,q2])
theorem c189t {t n:Int} (ht:t≤never) (hn:n≤never) (h:K (.int .i64 (zk3 t n)) cs):fn 189 [.int .i64 t,.int .i64 n] K cs:=f189 (by
 have hh:=nev;unfold s189;unfold zk3 at h;refine goj ?_;simp only [JD,JB];refine⟨λc1=>by rw [if_pos c1]at h;exact h,λc1=>⟨λc2=>by rw [if_neg c1,if_pos c2]at h;exact h,λc2=> ?_⟩⟩;rw [if_neg c1,if_neg c2]at h;obtain⟨a,rfl⟩:=Int.eq_ofNat_of_zero_le (show 0≤t by omega);obtain⟨b,rfl⟩:=Int.eq_ofNat_of_zero_le (show 0≤n by omega);rw [za2 (x:=a) (by omega),za2 (x:=b) (by omega)];have em:(a:Int)*(b:Int)=((a*b:Nat):Int):=(Qn ..).symm;rw [em]at h;refine c288t (by omega) (by omega) ?_;generalize a*b=p at h ⊢;refine go ?_;simp only [JD,JB];refine⟨λc3=> ?_,λc3=>⟨λc4=> ?_,λc4=> ?_⟩⟩
 ·rw [if_pos (by omega)]at h;exact h
 ·rw [if_pos (by omega)]at h;exact h
 ·rw [if_neg (by omega)]at h;rw [zad (by omega)]
  have:p % 18446744073709551616=p:=by omega
  rw [this];exact h)
theorem c310t {s:Setup} (g:good s=true) (h:K (.int .i64 (most s)) cs):fn 310 [.agg ⟨suC s⟩] K cs:=up0 (f310 (by
 have ho:=zal g;unfold s310;refine go λb1=> ?_;refine fin (keq h ?_);rw [zad (by split <;>omega)];unfold most;congr 1;split <;>omega))
theorem c214t {s:Setup} (g:good s=true) (h:K (.int .i64 (zcn s)) cs):fn 214 [.agg ⟨suC s⟩] K cs:=up0 (f214 (by
 have ho:=zal g;unfold s214;refine go λb1=>⟨λe=>absurd e (by rw [g];decide),λ_=> ?_⟩;refine c310t g ?_;have hm:2≤most s∧most s≤4097:=by unfold most;omega
 refine go ⟨⟨?_,by omega⟩,?_⟩
 ·rw [zad (n:=most s+s.quantum) (by omega),zad (by omega)];omega
 ·rw [zad (n:=most s+s.quantum) (by omega),zad (n:=most s+s.quantum-1) (by omega)];have h1:(most s+s.quantum-1) / s.quantum≤most s+s.quantum-1:=Int.ediv_le_self _ (by omega);have h2:0≤(most s+s.quantum-1) / s.quantum:=Int.ediv_nonneg (by omega) (by omega);rw [zad (by omega)];unfold zcn at h;rw [if_neg (by rw [g];decide)]at h;exact fin h))
theorem zxc {s:Setup} (g:good s=true):0≤zcn s∧zcn s≤1005000:=by
 have ho:=zal g;unfold zcn most;rw [if_neg (by rw [g];decide)];have h1:(1+max s.win s.out+s.quantum-1) / s.quantum≤1+max s.win s.out+s.quantum-1:=Int.ediv_le_self _ (by omega);have h2:0≤(1+max s.win s.out+s.quantum-1) / s.quantum:=Int.ediv_nonneg (by omega) (by omega);omega
theorem ztt {s:Setup} (g:good s=true):0≤za8 s∧za8 s≤2000000000:=by
 have ho:=zal g;have ht:=zxc g;unfold za8;rw [if_neg (by rw [g];decide)]
 have:s.live*zcn s≤1024*1005000:=Int.mul_le_mul (by omega) ht.2 ht.1 (by omega)
 have:=Int.mul_nonneg (a:=s.live) (b:=zcn s) (by omega) ht.1
 omega
theorem c135t {s:Setup} (g:good s=true) (h:K (.int .i64 (za8 s)) cs):fn 135 [.agg ⟨suC s⟩] K cs:=up0 (f135 (by
 have hw:=ztt g;unfold s135;refine go λb1=>⟨λe=>absurd e (by rw [g];decide),λ_=> ?_⟩;refine c214t g ?_;unfold za8 at h hw;rw [if_neg (by rw [g];decide)]at h hw;refine go ?_;rw [zad (by omega)];exact fin h))
theorem ztx (a b:Int):zk3 a b≤never:=by
 unfold zk3
 have:=nev
 repeat' split
 all_goals omega
instance (priority:=5000) c85n {t d:Int}:Go1 (fn 85 [.int .i64 t,.int .i64 d] K cs) (d≤never∧K (.int .i64 (tadd t d)) cs):=⟨λ⟨hd,h⟩=>f85 (by
 unfold s85;refine go ?_;have e1:w64 (9223372036854775807-own d)=9223372036854775807-own d:=zad (by have:=nev;unfold own;omega);rw [e1];refine⟨λhc=>keq h ?_,λhc=>keq h ?_⟩
 ·simp only [JD]at hc;simp [tadd,hc]
 ·simp only [JB]at hc;have e2:w64 (own t+own d)=own t+own d:=zad (by have:=nev;unfold own at *;omega);simp [tadd,hc,e2])⟩
theorem c116t {s:Setup} {t e:Int} (g:good s=true) (he:e≤never) (h:K (.int .i64 (zbe s t e)) cs):fn 116 [.agg ⟨suC s⟩,.int .i64 t,.int .i64 e] K cs:=up0 (f116 (by
 have hw:=ztt g;have hh:=nev;unfold s116;refine go λb1=>⟨λc=>absurd c (by rw [g];decide),λ_=> ?_⟩;refine c135t g ?_;refine go ?_;refine c189t he (by omega) ?_;unfold zbe at h;rw [if_neg (by rw [g];decide)]at h;exact go ⟨ztx _ _,he,fin h⟩))
instance c69 {a:Option Addr} {n c:Nat} {L:List EvM} [r:Rw 101 12 cs a n c encEv L]:Go1 (fn 69 [.slice a n c] K cs) (n≤4000000000000∧K (.int .i64 (L.foldl from1 0)) cs):=⟨λ⟨hn,h⟩=>up0 (f69 (by
 unfold s69;have hl:=r.h.len;refine lp (λy:Nat×Int=>[.int .i64 y.2,.int .i64 y.1]) (λ_=>cs) (λy=>y.1≤n∧(L.drop y.1).foldl from1 y.2=L.foldl from1 0) (λy=>n-y.1) (0,0) rfl (Imp.refl _) ⟨JJ _,by rw [Jm]⟩ ?_;rintro⟨i,u⟩ ⟨i1,i2⟩;dsimp only at *;refine go ?_;simp only [JD,JB,JE,Jd,JL];refine⟨λc0=>⟨by omega,λz hz b1=> ?_⟩,λc0=> ?_⟩
 ·have hil:=zaa hz;have ed:L.drop i=z::L.drop (i+1):=by
   rw [JM hil];rw [JC hil]at hz;rw [JQ hz]
  rw [ed,Ji]at i2;rw [zae (by omega)];refine⟨λc1=>⟨(i+1,z.tick),rfl,drp,⟨by simp only;omega,?_⟩,by simp only;omega⟩,λc1=>⟨(i+1,u),rfl,drp,⟨by simp only;omega,?_⟩,by simp only;omega⟩⟩
  ·rw [←i2];simp only [from1,if_pos c1]
  ·rw [←i2];simp only [from1,if_neg c1]
 ·have e:i=n:=by omega
  subst e;rw [hl,QU,QT]at i2;rw [←i2]at h;exact fin h))⟩
instance c117 {a:Option Addr} {n c:Nat} {L:List EvM} [r:Rw 101 12 cs a n c encEv L]:Go1 (fn 117 [.slice a n c] K cs) (n≤4000000000000∧K (.int .i64 (L.foldl from1 0)) cs):=⟨λh=>f117 (by unfold s117;exact go h)⟩
end
end Go.Proofs.YtbjlfobjngogkaaGreatDoor
namespace Go.Proofs.YtbjlfobjngogkaaGreatDoor
structure Dia.Keeps (d d':Dia):Prop where
 cut:d'.due.cut=d.due.cut
 lim:d'.due.lim=d.due.lim
theorem zh5 (d:Dia) (to:Int):d.Keeps (d.come to):=by
 unfold Dia.come;repeat' split
 all_goals exact⟨rfl,rfl⟩
theorem zdi (d:Dia) (st:Int):d.Keeps (d.stop st):=⟨rfl,rfl⟩
theorem zfr (d:Dia) (x:StepM) (to:Int):d.Keeps (d.jump x to).2:=by
 unfold Dia.jump;split
 ·exact zdi _ _
 ·split
  ·exact zdi _ _
  ·have:=zh5 {d with jumps:=d.jumps+1} to
   exact⟨this.cut,this.lim⟩
theorem zfq {d:Dia} {w:Win} {q:List UInt8} {d':Dia} (h:Dia.Keeps {d with win:=w,inq:=q} d'):d.Keeps d':=⟨h.cut,h.lim⟩
theorem ztd (d:Dia) (x:StepM) (o:OpM):d.Keeps (d.look x o).2:=by
 unfold Dia.look;cases d.win.m with
 | none=>exact⟨rfl,rfl⟩
 | some m=>
  dsimp only;split
  ·exact zfq (zfr _ _ _)
  ·split
   ·exact zfq (zdi _ _)
   ·split
    ·exact zfq (zfr _ _ _)
    ·split
     ·exact zfq (zfr _ _ _)
     ·exact⟨rfl,rfl⟩
theorem ztk (d:Dia) (x:StepM):d.Keeps (d.does x).2:=by
 unfold Dia.does;split
 ·exact zdi _ _
 ·split
  ·unfold Dia.send;split
   ·exact⟨rfl,rfl⟩
   ·exact zh5 _ _
  ·split
   ·exact ztd _ _ _
   ·split
    ·exact zfr _ _ _
    ·split
     ·exact zh5 _ _
     ·split <;>exact zdi _ _
theorem zk5 {d d':Dia} {now:Int} {y:StepM} (h:d.step now=some (y,d')):d.Keeps d':=by
 obtain⟨_,_,_,_,h5,_⟩:=zch h;rw [h5]
 have:=ztk (d.tick now) ⟨(d.tick now).now,d.at_,0,0,0,0⟩
 exact⟨this.cut,this.lim⟩
theorem zpn (a b:Int):zjc [a,b]=min (min never (own a)) (own b):=rfl
def Cutd (t:Int) (d:Dia):Prop:=d.cut t=d
theorem zwn (d:Dia) (t:Int):(d.cut t).cut t=d.cut t:=by
 unfold Dia.cut;by_cases h:d.runs=true
 ·rw [if_pos h,if_pos (show({d with due:=d.due.cuts t}:Dia).runs=true from h)]
  have:(d.due.cuts t).cuts t=d.due.cuts t:=by
   unfold Due.cuts
   have:=nev
   congr 1;simp only [zpn];unfold own;omega
  simp only [this]
 ·rw [if_neg h,if_neg h]
theorem zei {d:Dia} {t:Int} (h:d.status=0):Cutd t d↔zjc [d.due.cut,t]=d.due.cut:=by
 have hr:d.runs=true:=by unfold Dia.runs;rw [h];rfl
 unfold Cutd Dia.cut Due.cuts;rw [if_pos hr];constructor
 ·intro e
  have:=congrArg (λd=>d.due.cut) e
  exact this
 ·intro e;rw [e]
theorem zwl {d d':Dia} {t now:Int} {y:StepM} (hc:Cutd t d) (h0:d.status=0) (h:d.step now=some (y,d')) (h1:d'.status=0):Cutd t d':=by
 rw [zei h0]at hc;rw [zei h1,(zk5 h).cut];exact hc
structure Co where
 s:Setup
 ps:List PrM
 nx:Int
 seats:List (Option Seat)
 clock:Int
 drains:Bool
 stopped:Bool
 log:List EvM
def Eng.co (e:Eng) (L:List EvM):Co:=⟨e.s,e.scripts,e.slots.next,e.seats,e.clock,e.drains,e.stopped,L⟩
def Co.put (c:Co) (k:Nat) (y:Option Seat):Co:={c with seats:=c.seats.set k y}
def Co.tell (c:Co) (x:EvM):Co:={c with log:=c.log++[x]}
def cutS (t:Int) (x:Seat):Seat:={x with d:=x.d.cut t}
inductive Mv (c:Co):Co→Prop
 | round (t:Int) (h:c.clock≤t) (h1:t<never):Mv c (({c with clock:=t}:Co).tell (zb9 t))
 | refuse (id n err nx:Int) (h:c.nx≤nx) (h1:c.nx≤4096→nx≤4096):Mv c (({c with nx:=nx}:Co).tell (zbz id n err))
 | opens (n:Int) (k:Nat) (hn:0≤n∧n<c.ps.length) (hg:goodP (c.ps.getD n.toNat PrM.zero)=true) (hd:c.drains=false) (hx:c.nx<4096) (hk:c.seats[k]? =some none):
   Mv c ((({c with nx:=c.nx+1}:Co).put k (some ⟨c.nx,Dia.new c.s (c.ps.getD n.toNat PrM.zero) c.clock,[],false⟩)).tell (za5 c.nx n))
 | wire (k:Nat) (x:Seat) (q:List UInt8) (eof:Bool) (hk:c.seats[k]? =some (some x)):Mv c (c.put k (some {x with q:=q,eof:=eof}))
 | drain (t:Int) (ht:c.clock≤t) (hd:c.drains=false∨c.stopped=false):Mv c (({c with drains:=true,seats:=c.seats.map (Option.map (cutS t))}:Co).tell (zbb t))
 | read (k:Nat) (x:Seat) (hk:c.seats[k]? =some (some x)) (h:x.reads≠[]):Mv c ((c.put k (some x.read1)).tell (zd0 x.id ⟨⟨x.reads⟩⟩))
 | ends (k:Nat) (x:Seat) (hk:c.seats[k]? =some (some x)) (h:x.d.runs=true) (h2:x.d.eof=false):Mv c ((c.put k (some {x with d:=x.d.ends})).tell (evEof x.id))
 | write (k:Nat) (x:Seat) (n:Int) (hk:c.seats[k]? =some (some x)) (h:(x.d.taken n).size≠0):Mv c ((c.put k (some {x with d:=x.d.take n})).tell (zdf x.id (x.d.taken n)))
 | step (k:Nat) (x:Seat) (y:StepM) (d':Dia) (hk:c.seats[k]? =some (some x)) (hs:x.d.step c.clock=some (y,d')) (h:d'.status=0):Mv c ((c.put k (some {x with d:=d'})).tell (zar x.id y))
 | last (k:Nat) (x:Seat) (y:StepM) (d':Dia) (hk:c.seats[k]? =some (some x)) (hs:x.d.step c.clock=some (y,d')) (h:d'.status≠0):Mv c ((c.put k none).tell (zar x.id y))
 | stop (h:c.drains=true) (h1:c.stopped=false) (h2:∀(k:Nat) (x:Seat),c.seats[k]?≠some (some x)):Mv c (({c with stopped:=true}:Co).tell zf4)
inductive Path:Co→Co→Prop
 | refl (c:Co):Path c c
 | snoc {a b c:Co} (h:Path a b) (m:Mv b c):Path a c
theorem Path.one {a b:Co} (m:Mv a b):Path a b:= .snoc (.refl a) m
theorem Path.trans {a b c:Co} (h:Path a b) (h':Path b c):Path a c:=by
 induction h' with
 | refl=>exact h
 | snoc _ m ih=>exact .snoc ih m
theorem Path.keeps {P:Co→Prop} {a b:Co} (h:Path a b) (hm:∀a b,P a→Mv a b→P b) (ha:P a):P b:=by
 induction h with
 | refl=>exact ha
 | snoc _ m ih=>exact hm _ _ ih m
def Co.Al (c:Co):Prop:=∀(k:Nat) (x:Seat),c.seats[k]? =some (some x)→x.d.status=0
theorem zks {c:Co} (h:c.Al) {k:Nat} {y:Option Seat} (hy:∀x,y=some x→x.d.status=0):(c.put k y).Al:=by
 intro i z hz;unfold Co.put at hz;simp only [Jy]at hz;split at hz
 ·split at hz
  ·cases hz;exact hy z rfl
  ·cases hz
 ·exact h i z hz
theorem al_mv {a b:Co} (h:a.Al) (m:Mv a b):b.Al:=by
 cases m with
 | round t h1 h2=>exact h
 | refuse id n err nx h1 h2=>exact h
 | opens n k hn hg hd hx hk=>exact zks (c:={a with nx:=a.nx+1}) h λx hx=>by cases hx;exact(ziw _ _ _).2.2.1
 | wire k x q eof hk=>exact zks h λy hy=>by cases hy;exact h k x hk
 | drain t ht hd=>
  intro i z hz;simp only [Co.tell,JW,QI]at hz;obtain⟨o,ho,x,rfl,rfl⟩:=hz;exact(zbv x.d t).2.1.trans (h i x ho)
 | read k x hk hr=>exact zks (c:=a) h λy hy=>by cases hy;exact(zcs _ _).2.1.trans (h k x hk)
 | ends k x hk h1 h2=>exact zks (c:=a) h λy hy=>by cases hy;exact(zcl _).2.1.trans (h k x hk)
 | write k x n hk h1=>exact zks (c:=a) h λy hy=>by cases hy;exact(zcf _ _).2.1.trans (h k x hk)
 | step k x y d' hk hs h1=>exact zks (c:=a) h λy hy=>by cases hy;exact h1
 | last k x y d' hk hs h1=>exact zks (c:=a) h λy hy=>by cases hy
 | stop h1 h2 h3=>exact h
theorem zbl {a b:Co} (p:Path a b) (h:a.Al):b.Al:=p.keeps (λ_ _=>al_mv) h
section
variable {acc:List EvM} {e:Eng}
theorem co_al {L:List EvM}:(e.co L).Al↔∀k x,e.seat k=some x→x.d.status=0:=by
 unfold Co.Al Eng.co;constructor
 ·intro h k x hk;exact h k x (zao.1 hk)
 ·intro h k x hk;exact h k x (zao.2 hk)
abbrev Go2 (acc:List EvM) (e e':Eng):Prop:=Path (e.co (acc++e.out)) (e'.co (acc++e'.out))
theorem zf8 (k:Nat):Go2 acc e (e.settle k):=by
 have:(e.settle k).co (acc++(e.settle k).out)=e.co (acc++e.out):=by unfold Eng.settle;cases e.seat k <;>rfl
 unfold Go2;rw [this];exact .refl _
theorem zog (ha:(e.co (acc++e.out)).Al) (k:Nat):Go2 acc e (e.step k).2:=by
 unfold Go2 Eng.step;cases hk:e.seat k with
 | none=>exact .refl _
 | some x=>
  have hk1:=zao.1 hk;have h0:=co_al.1 ha k x hk;dsimp only;cases hst:x.d.step e.clock with
  | none=>dsimp only;rw [if_pos h0];exact .refl _
  | some y=>
   obtain⟨y,d'⟩:=y;dsimp only;split
   ·rename_i h1
    have:=Mv.step (c:=e.co (acc++e.out)) k x y d' hk1 hst h1
    refine .one ?_;show Mv _ (Co.mk _ _ _ _ _ _ _ (acc++(e.out++[zar x.id y])));rw [←JO];exact this
   ·rename_i h1
    have:=Mv.last (c:=e.co (acc++e.out)) k x y d' hk1 hst h1
    refine .one ?_;show Mv _ (Co.mk _ _ (e.slots.close x.id).next ((e.seats.set k (some {x with d:=d'})).set k none) _ _ _ (acc++(e.out++[zar x.id y])));rw [←JO,zfv,List.set_set];exact this
theorem zj1 (ho:e.Ok) (n:Int):Go2 acc e (e.open n):=by
 unfold Eng.open;split
 ·refine .one ?_;show Mv _ (Co.mk _ _ e.slots.skip.next _ _ _ _ (acc++(e.out++[zbz e.slots.skipped n (e.refused n)])));rw [←JO];refine Mv.refuse (c:=e.co (acc++e.out)) _ _ _ _ ?_ ?_
  ·show e.slots.next≤e.slots.skip.next
   unfold Slots.skip;split
   ·exact Int.le_refl _
   ·simp only;omega
  ·show e.slots.next≤4096→e.slots.skip.next≤4096
   unfold Slots.skip;split
   ·exact id
   ·simp only;omega
 ·rename_i hr;have hr:=Decidable.not_not.1 hr;obtain⟨r1,r2,r3,r4,r5⟩:=zb6 hr;obtain⟨f1,f2⟩:=zcw r5;rw [ho.l2]at f1;refine Path.trans (.one ?_) (zf8 (acc:=acc) (e:={e with slots:=e.slots.open,seats:=e.seats.set e.slots.first (some ⟨e.slots.next,Dia.new e.s (e.scripts.getD n.toNat PrM.zero) e.clock,[],false⟩),out:=e.out++[za5 e.slots.next n]}) _);show Mv _ (Co.mk _ _ _ _ _ _ _ (acc++(e.out++[za5 e.slots.next n])));rw [←JO];refine Mv.opens (c:=e.co (acc++e.out)) n e.slots.first r1 r2 r3 r4 ?_
  show e.seats[e.slots.first]? =some none;have hw:=ho.w
  have:(e.seats.map zdl)[e.slots.first]? =some (-1):=by rw [hw];exact f2
  rw [JW]at this;cases hs:e.seats[e.slots.first]? with
  | none=>rw [hs]at this;cases this
  | some o=>
   cases o with
   | none=>rfl
   | some x=>
    rw [hs]at this;simp [zdl]at this
    have:=(ho.nx _ x (zao.2 hs)).1
    omega
theorem zs5 (o:OfferM):Go2 acc e (e.offer o):=by
 unfold Go2 Eng.offer;cases e.slots.slot o.id with
 | none=>exact .refl _
 | some k=>
  dsimp only;cases hk:e.seat k with
  | none=>exact .refl _
  | some x=>
   dsimp only;split
   ·exact .refl _
   ·exact .one (Mv.wire (c:=e.co (acc++e.out)) k x _ _ (zao.1 hk))
def Eng.cutAll (t:Int) (e:Eng):Eng:={e with seats:=e.seats.map (Option.map (cutS t))}
theorem zqp {t:Int} (h:∀k x,e.seat k=some x→Cutd t x.d):e.cutAll t=e:=by
 unfold Eng.cutAll
 have:e.seats.map (Option.map (cutS t))=e.seats:=by
  apply List.ext_getElem?;intro i;rw [JW];cases hs:e.seats[i]? with
  | none=>rfl
  | some o=>
   cases o with
   | none=>rfl
   | some x=>
    have:=h i x (zao.2 hs)
    unfold Cutd at this;simp [cutS,this]
 rw [this]
theorem zgb {l:List (Option Seat)} {k:Nat} {t:Int} {y:Option Seat} (hy:∀x,y=some x→Cutd t x.d):(l.set k y).map (Option.map (cutS t))=(l.map (Option.map (cutS t))).set k y:=by
 rw [List.map_set];congr 1;cases y with
 | none=>rfl
 | some x=>
  have:=hy x rfl
  unfold Cutd at this;simp [cutS,this]
theorem zed {l:List (Option Seat)} {k:Nat} {t:Int} {x:Seat} (h:l[k]? =some (some x)):(l.map (Option.map (cutS t)))[k]? =some (some (cutS t x)):=by rw [JW,h];rfl
theorem zxo {l:List (Option Seat)} {k:Nat} {y:Option Seat} (h:l[k]? =some y):l.set k y=l:=by
 apply List.ext_getElem?;intro i;rw [Jy];split
 ·rename_i hi;subst hi;rw [h,if_pos (zaa h)]
 ·rfl
theorem zu8 (ho:e.Ok) (ha:(e.co (acc++e.out)).Al) (t:Int) (now:Bool) (id:Int):
  Go2 acc (e.cutAll t) ((e.cut1 t now id).cutAll t)∧(∀k x,(e.cut1 t now id).seat k=some x→e.seat k=some x∨Cutd t x.d)∧(∀k x,(e.cut1 t now id).seat k=some x→x.id=id→Cutd t x.d):=by
 unfold Eng.cut1;cases hs:e.slots.slot id with
 | none=>
  refine⟨.refl _,λ_ _ h=> .inl h,λk x hk hid=> ?_⟩
  have:=ho.slot_of hk
  rw [hid,hs]at this;cases this
 | some k=>
  dsimp only;obtain⟨x0,hx0,hid0⟩:=ho.of_slot hs;rw [hx0];dsimp only;have h0:=co_al.1 ha k x0 hx0;have hk1:=zao.1 hx0;have hcut:Cutd t (x0.d.cut t):=zwn x0.d t;have hseat:=zag hx0 {x0 with d:=x0.d.cut t};have old:∀(e':Eng),(∀i,i≠k→e'.seat i=e.seat i)→(∀x,e'.seat k=some x→Cutd t x.d)→
    (∀i x,e'.seat i=some x→e.seat i=some x∨Cutd t x.d)∧(∀i x,e'.seat i=some x→x.id=id→Cutd t x.d):=by
   intro e' h1 h2;refine⟨λi x hx=> ?_,λi x hx hid=> ?_⟩
   ·by_cases hi:i=k
    ·subst hi;exact .inr (h2 x hx)
    ·rw [h1 i hi]at hx;exact .inl hx
   ·by_cases hi:i=k
    ·subst hi;exact h2 x hx
    ·rw [h1 i hi]at hx;exact absurd (ho.nd _ _ _ _ hx hx0 (hid.trans hid0.symm)) hi
  have e1s:((e.setSeat k (some {x0 with d:=x0.d.cut t})).seats.map (Option.map (cutS t)))=e.seats.map (Option.map (cutS t)):=by
   show((e.seats.set k _).map _)=_;rw [zgb (λx hx=>by cases hx;exact hcut)];exact zxo (zed hk1)
  have hgen:∀e':Eng,e'.s=e.s→e'.scripts=e.scripts→e'.slots.next=e.slots.next→e'.seats.map (Option.map (cutS t))=e.seats.map (Option.map (cutS t))→e'.clock=e.clock→e'.drains=e.drains→e'.stopped=e.stopped→e'.out=e.out→
    Go2 acc (e.cutAll t) (e'.cutAll t):=by
   intro e' g1 g2 g3 g4 g5 g6 g7 g8
   have:(e'.cutAll t).co (acc++(e'.cutAll t).out)=(e.cutAll t).co (acc++(e.cutAll t).out):=by
    unfold Eng.cutAll Eng.co;simp only [g1,g2,g3,g4,g5,g6,g7,g8]
   unfold Go2;rw [this];exact .refl _
  have settled:∀e':Eng,(e'.settle k).s=e'.s∧(e'.settle k).scripts=e'.scripts∧(e'.settle k).slots=e'.slots∧(e'.settle k).seats=e'.seats∧(e'.settle k).clock=e'.clock∧(e'.settle k).drains=e'.drains∧(e'.settle k).stopped=e'.stopped∧(e'.settle k).out=e'.out:=by
   intro e';unfold Eng.settle;cases e'.seat k <;>exact⟨rfl,rfl,rfl,rfl,rfl,rfl,rfl,rfl⟩
  split
  ·
   obtain⟨g1,g2,g3,g4,g5,g6,g7,g8⟩:=settled (e.setSeat k (some {x0 with d:=x0.d.cut t}));refine⟨hgen _ (g1.trans rfl) (g2.trans rfl) (by rw [g3];rfl) (by rw [g4];exact e1s) (g5.trans rfl) (g6.trans rfl) (g7.trans rfl) (g8.trans rfl),old _ (λi hi=> ?_) (λx hx=> ?_)⟩
   ·rw [za0,hseat,if_neg hi]
   ·rw [za0,hseat,if_pos rfl]at hx;cases hx;exact hcut
  ·
   have hseatk:(e.setSeat k (some {x0 with d:=x0.d.cut t})).seat k=some {x0 with d:=x0.d.cut t}:=(hseat k).trans (if_pos rfl);have hal:(x0.d.cut t).status=0:=(zbv x0.d t).2.1.trans h0;have base:Go2 acc (e.cutAll t) (((e.setSeat k (some {x0 with d:=x0.d.cut t})).step k).2.cutAll t)∧
     (∀i,i≠k→((e.setSeat k (some {x0 with d:=x0.d.cut t})).step k).2.seat i=e.seat i)∧(∀x,((e.setSeat k (some {x0 with d:=x0.d.cut t})).step k).2.seat k=some x→Cutd t x.d):=by
    unfold Eng.step;rw [hseatk];dsimp only;cases hst:(x0.d.cut t).step (e.setSeat k (some {x0 with d:=x0.d.cut t})).clock with
    | none=>
     dsimp only;rw [if_pos hal];exact⟨hgen _ rfl rfl rfl e1s rfl rfl rfl rfl,λi hi=>by rw [hseat,if_neg hi],λx hx=>by rw [hseatk]at hx;cases hx;exact hcut⟩
    | some y=>
     obtain⟨y,d'⟩:=y;dsimp only;have hk2:((e.cutAll t).co (acc++e.out)).seats[k]? =some (some (cutS t x0)):=zed hk1;split
     ·rename_i h1;have hc':=zwl hcut hal hst h1;have hset:(((e.setSeat k (some {x0 with d:=x0.d.cut t})).setSeat k (some {x0 with d:=d'})).seats)=e.seats.set k (some {x0 with d:=d'}):=by
       show(e.seats.set k _).set k _=_;rw [List.set_set]
      have hseat2:∀i,((((e.setSeat k (some {x0 with d:=x0.d.cut t})).setSeat k (some {x0 with d:=d'})).tell (zar x0.id y)).seat i)=if i=k then some {x0 with d:=d'} else e.seat i:=by
       intro i;show Eng.seat ((e.setSeat k (some {x0 with d:=x0.d.cut t})).setSeat k (some {x0 with d:=d'})) i=_;rw [zag hseatk,hseat];split <;>rfl
      refine⟨.one ?_,λi hi=>by rw [hseat2,if_neg hi],λx hx=>by rw [hseat2,if_pos rfl]at hx;cases hx;exact hc'⟩
      have:=Mv.step (c:=(e.cutAll t).co (acc++e.out)) k (cutS t x0) y d' hk2 hst h1
      show Mv _ (Co.mk _ _ _ (List.map _ (((e.setSeat k (some {x0 with d:=x0.d.cut t})).setSeat k (some {x0 with d:=d'})).seats)) _ _ _ (acc++(e.out++[zar x0.id y])));rw [←JO,hset,zgb (λx hx=>by cases hx;exact hc')];exact this
     ·rename_i h1;have hset:((((e.setSeat k (some {x0 with d:=x0.d.cut t})).setSeat k (some {x0 with d:=d'})).tell (zar x0.id y)).gone k x0.id).seats=e.seats.set k none:=by
       show((e.seats.set k _).set k _).set k none=_;rw [List.set_set,List.set_set]
      refine⟨.one ?_,λi hi=> ?_,λx hx=> ?_⟩
      ·have:=Mv.last (c:=(e.cutAll t).co (acc++e.out)) k (cutS t x0) y d' hk2 hst h1
       show Mv _ (Co.mk _ _ (e.slots.close x0.id).next (List.map _ (((((e.setSeat k (some {x0 with d:=x0.d.cut t})).setSeat k (some {x0 with d:=d'})).tell (zar x0.id y)).gone k x0.id).seats)) _ _ _ (acc++(e.out++[zar x0.id y])));rw [←JO,hset,zfv,zgb (λx hx=>by cases hx)];exact this
      ·rw [zbp,if_neg hi];show Eng.seat ((e.setSeat k (some {x0 with d:=x0.d.cut t})).setSeat k (some {x0 with d:=d'})) i=_;rw [zag hseatk,if_neg hi,hseat,if_neg hi]
      ·rw [zbp,if_pos rfl]at hx;cases hx
   obtain⟨b1,b2,b3⟩:=base;split
   ·obtain⟨g1,g2,g3,g4,g5,g6,g7,g8⟩:=settled ((e.setSeat k (some {x0 with d:=x0.d.cut t})).step k).2;refine⟨?_,old _ (λi hi=>by rw [za0];exact b2 i hi) (λx hx=>by rw [za0]at hx;exact b3 x hx)⟩
    have:((((e.setSeat k (some {x0 with d:=x0.d.cut t})).step k).2.settle k).cutAll t).co (acc++((((e.setSeat k (some {x0 with d:=x0.d.cut t})).step k).2.settle k).cutAll t).out) =
      (((e.setSeat k (some {x0 with d:=x0.d.cut t})).step k).2.cutAll t).co (acc++(((e.setSeat k (some {x0 with d:=x0.d.cut t})).step k).2.cutAll t).out):=by
     unfold Eng.cutAll Eng.co;simp only [g1,g2,g3,g4,g5,g6,g7,g8]
    unfold Go2;rw [this];exact b1
   ·exact⟨b1,old _ b2 b3⟩
theorem zoi (t:Int) (now:Bool):∀(l:List Int) (e:Eng),e.Ok→(e.co (acc++e.out)).Al→(∀k x,e.seat k=some x→x.id∈l∨Cutd t x.d)→Go2 acc (e.cutAll t) (l.foldl (Eng.cut1 t now) e)
 | [],e,_,_,h=>by
  rw [zqp (λk x hk=>by rcases h k x hk with h | h;cases h;exact h)];exact .refl _
 | id::l,e,ho,ha,h=>by
  obtain⟨h1,h2,h3⟩:=zu8 (acc:=acc) ho ha t now id;have ha1:((e.cut1 t now id).co (acc++(e.cut1 t now id).out)).Al:=by
   have hc:((e.cutAll t).co (acc++(e.cutAll t).out)).Al:=by
    intro i z hz;unfold Eng.co Eng.cutAll at hz;simp only [JW,QI]at hz;obtain⟨o,ho',x,rfl,rfl⟩:=hz;exact(zbv x.d t).2.1.trans (ha i x ho')
   have hc1:=zbl h1 hc;intro i z hz
   have:=hc1 i (cutS t z) (zed hz)
   rw [←this];exact(zbv z.d t).2.1.symm
  refine Path.trans h1 (zoi t now l _ (zm7 ho t now id) ha1 λk x hk=> ?_);rcases h2 k x hk with h4 | h4
  ·rcases h k x h4 with h5 | h5
   ·rcases Jp.1 h5 with h6 | h6
    ·exact .inr (h3 k x hk h6)
    ·exact .inl h6
   ·exact .inr h5
  ·exact .inr h4
theorem zrz (ho:e.Ok) (ha:(e.co (acc++e.out)).Al) {t:Int} (now:Bool) (ht:e.clock≤t) (hd:e.drains=false∨e.stopped=false):Go2 acc e (e.cut t now):=by
 unfold Eng.cut;refine Path.trans (.one ?_) (zoi (acc:=acc) t now e.slots.live {e with drains:=true,out:=e.out++[zbb t]} {ho with} ha λk x hk=> ?_)
 ·show Mv _ (Co.mk _ _ _ _ _ _ _ (acc++(e.out++[zbb t])));rw [←JO];exact Mv.drain (c:=e.co (acc++e.out)) t ht hd
 ·left;have hw:=ho.who hk;have hn:=(ho.nx k x hk).1;exact zmv.2 ⟨JN hw,by omega⟩
theorem zs6 (ho:e.Ok) (ha:(e.co (acc++e.out)).Al) (r:RoundM):Go2 acc e (e.drain r):=by
 unfold Eng.drain;split
 ·rename_i h;exact zrz ho ha true (Int.le_refl _) (.inr h.2)
 ·split
  ·rename_i h;refine zrz ho ha false ?_ (.inl h.2.2)
   have:=ho.c0;have:=ho.c1
   unfold tadd own;split <;>omega
  ·exact .refl _
theorem zoh (ha:(e.co (acc++e.out)).Al) (k:Nat):Go2 acc e (e.read k):=by
 unfold Go2;cases hk:e.seat k with
 | none=>unfold Eng.read;rw [hk];exact .refl _
 | some x=>
  by_cases c0:x.d.room=0
  ·unfold Eng.read;rw [hk];dsimp only;rw [if_pos c0];exact .refl _
  ·rw [zey hk c0];have hk1:=zao.1 hk;have p1:Path (e.co (acc++e.out)) ((e.read1 k x).co (acc++(e.read1 k x).out))∧(e.read1 k x).seat k=some x.got:=by
    unfold Eng.read1 Seat.got;by_cases c1:x.reads=[]
    ·rw [if_pos c1,if_pos c1];exact⟨.refl _,hk⟩
    ·rw [if_neg c1,if_neg c1];refine⟨.one ?_,(zag hk x.read1 k).trans (if_pos rfl)⟩;show Mv _ (Co.mk _ _ _ _ _ _ _ (acc++(e.out++[zd0 x.id ⟨⟨x.reads⟩⟩])));rw [←JO];exact Mv.read (c:=e.co (acc++e.out)) k x hk1 c1
   split
   ·rename_i c2;simp only [JT,Jc]at c2;refine Path.trans p1.1 (.one ?_);show Mv _ (Co.mk _ _ _ _ _ _ _ (acc++((e.read1 k x).out++[evEof x.id])));rw [←JO]
    have:=Mv.ends (c:=(e.read1 k x).co (acc++(e.read1 k x).out)) k x.got (zao.1 p1.2) c2.2.1 c2.2.2
    rw [show evEof x.got.id=evEof x.id by rw [z0c]]at this;exact this
   ·exact p1.1
theorem zno {d:Dia} (h:d.Ok) {n:Int} (ht:(d.taken n).size=0):d.take n=d:=by
 unfold Dia.take;split
 ·rename_i hr;have hw:=h.ou
  have:d.out.take n=d.out:=by
   unfold Wtr.take
   have:d.out.upto n=d.out.sent:=by
    unfold Dia.taken at ht;rw [if_pos hr]at ht;unfold Wtr.taken at ht;have h0:=hw.h0;have h1:=hw.h1;have h2:=hw.h2;split at ht
    ·rename_i hl;unfold Wtr.upto;omega
    ·rw [ByteArray.size_extract]at ht
     have:d.out.upto n≤d.out.laid:=by unfold Wtr.upto;omega
     have:d.out.sent≤d.out.upto n:=by unfold Wtr.upto;omega
     omega
   rw [this]
  rw [this]
 ·rfl
theorem zlh (ho:e.Ok) (k:Nat) (n:Int):Go2 acc e (e.write k n):=by
 unfold Go2 Eng.write;cases hk:e.seat k with
 | none=>exact .refl _
 | some x=>
  dsimp only;have hk1:=zao.1 hk;split
  ·rename_i c;rw [zno (ho.dO k x hk).1 c]
   have:e.setSeat k (some {x with d:=x.d})=e:=zb2 hk
   rw [this];exact .refl _
  ·rename_i c;refine .one ?_;show Mv _ (Co.mk _ _ _ _ _ _ _ (acc++(e.out++[zdf x.id (x.d.taken n)])));rw [←JO];exact Mv.write (c:=e.co (acc++e.out)) k x n hk1 c
theorem zp4 (ho:e.Ok) (ha:(e.co (acc++e.out)).Al) (r:ReportM):Go2 acc e (e.report r):=by
 unfold Eng.report;cases e.slots.slot r.id with
 | none=>exact .refl _
 | some k=>
  dsimp only;have h1:Go2 acc e (e.reported r k):=by
   unfold Eng.reported;dsimp only;by_cases c:r.read=true
   ·rw [if_pos c];split
    ·exact Path.trans (zoh ha k) (zlh (zmj ho k).1 k _)
    ·exact zoh ha k
   ·rw [if_neg c];split
    ·exact zlh ho k _
    ·exact .refl _
  split
  ·exact Path.trans h1 (zf8 k)
  ·exact h1
theorem zli:∀(f:Nat) (e:Eng) (k:Nat),e.Ok→(e.co (acc++e.out)).Al→Go2 acc e (Eng.spend f e k).2
 | 0,_,_,_,_=> .refl _
 | f+1,e,k,ho,ha=>by
  rw [Eng.spend];cases hk:e.seat k with
  | none=>exact .refl _
  | some x=>
   dsimp only;split
   ·split
    ·have ho1:=zlg ho x.d.price;have hp:=zog (acc:=acc) (e:={e with turns:=(e.turns.pay x.d.price).1}) ha k;split
     ·exact Path.trans hp (zli f _ k (zbi ho1 k) (zbl hp ha))
     ·exact hp
    ·exact .refl _
   ·exact .refl _
theorem zu6 (k:Nat):Go2 acc e (e.rest k):=by
 have:(e.rest k).co (acc++(e.rest k).out)=e.co (acc++e.out):=by unfold Eng.rest;cases e.seat k <;>rfl
 unfold Go2;rw [this];exact .refl _
theorem zj0 (ho:e.Ok) (ha:(e.co (acc++e.out)).Al):Go2 acc e e.turn.2:=by
 unfold Eng.turn;cases hb:e.turns.begin.2 with
 | none=>exact .refl _
 | some k=>
  dsimp only;obtain⟨ho1,_⟩:=zhh ho hb;have h2:=zli (acc:=acc) ((e.turns.begin.1.has.getD k 0).toNat+1) {e with turns:=e.turns.begin.1} k ho1 ha;split
  ·exact Path.trans (b:=(Eng.co _ _)) h2 (zu6 k)
  ·exact h2
theorem zfh:∀(v:Nat) (e:Eng),e.Ok→(e.co (acc++e.out)).Al→Go2 acc e (Eng.visit v e)
 | 0,_,_,_=> .refl _
 | v+1,e,ho,ha=>by
  rw [Eng.visit];split
  ·have:=zj0 (acc:=acc) ho ha
   exact Path.trans this (zfh v _ (zl4 ho) (zbl this ha))
  ·exact .refl _
theorem zof:Go2 acc e e.wakeAll:=by
 unfold Eng.wakeAll
 have:∀(l:List (Int×Nat)) (e:Eng),Go2 acc e (l.foldl (λe t=>e.settle t.2) e):=by
  intro l
  induction l with
  | nil=>exact λ_=> .refl _
  | cons a l ih=>exact λe=>Path.trans (zf8 a.2) (ih _)
 exact this _ {e with tm:=(tmDue e.tm.length e.tm e.clock).2}
theorem zu7 (ho:e.Ok):Go2 acc e e.halt:=by
 unfold Eng.halt;split
 ·rename_i h;simp only [JT,Jc,List.isEmpty_iff]at h;refine .one ?_;show Mv _ (Co.mk _ _ _ _ _ _ _ (acc++(e.out++[zf4])));rw [←JO];refine Mv.stop (c:=e.co (acc++e.out)) h.1.1 h.1.2 λk x hk=> ?_;have hk:=zao.2 hk;have hw:=ho.who hk;have hn:=(ho.nx k x hk).1
  have:x.id∈e.slots.live:=zmv.2 ⟨JN hw,by omega⟩
  rw [h.2]at this;cases this
 ·exact .refl _
theorem zfj {α:Type} {f:Eng→α→Eng} (hf:∀(e:Eng) (a:α),e.Ok→(e.co (acc++e.out)).Al→(f e a).Ok∧Go2 acc e (f e a)):∀(l:List α) (e:Eng),e.Ok→(e.co (acc++e.out)).Al→(l.foldl f e).Ok∧Go2 acc e (l.foldl f e)
 | [],_,ho,_=>⟨ho,.refl _⟩
 | a::l,e,ho,ha=>by
  obtain⟨h1,h2⟩:=hf e a ho ha;obtain⟨h3,h4⟩:=zfj hf l (f e a) h1 (zbl h2 ha);exact⟨h3,Path.trans h2 h4⟩
end
def FairM.co (f:FairM):Co:=f.e.co f.out
theorem z3h (su:Setup) (ps:List PrM):(FairM.new su ps).co.Al:=by
 intro k x hk;unfold FairM.co FairM.new Eng.new Eng.co at hk;simp only [QD]at hk;split at hk <;>simp at hk
def nst (id:Int) (l:List EvM):Nat:=l.countP λv=>v.kind == 8&&v.id == id
theorem zeb (id:Int) (a b:List EvM):nst id (a++b)=nst id a+nst id b:=List.countP_append
theorem zvc {id:Int} (y:StepM):nst id [zar id y]=1:=by simp [nst,zar]
def Eng.hasOf (e:Eng) (k:Nat):Int:=e.turns.has.getD k 0
structure Eng.TI (e:Eng):Prop where
 who:e.turns.who= -1
 len:e.turns.has.length=e.s.live.toNat
 nn:∀k,0≤e.hasOf k
 qu:e.turns.quantum=e.s.quantum
structure Eng.TW (e:Eng) (k:Nat):Prop where
 who:e.turns.who=k
 len:e.turns.has.length=e.s.live.toNat
 nn:∀k,0≤e.hasOf k
 qu:e.turns.quantum=e.s.quantum
theorem zbq (l:List Int) (i j:Nat) (v:Int):(l.set i v).getD j 0=if i=j∧i<l.length then v else l.getD j 0:=by
 simp only [JA,Jy];by_cases c:i=j
 ·subst c;by_cases h:i<l.length
  ·rw [if_pos rfl,if_pos h,if_pos ⟨rfl,h⟩];rfl
  ·rw [if_pos rfl,if_neg h,if_neg (λhh=>h hh.2),QB (by omega)]
 ·rw [if_neg c,if_neg (λhh=>c hh.1)]
theorem zs3 {d:Dia} (hg:good d.s=true):d.price≤most d.s:=by
 have hf:=zal hg;unfold Dia.price Go.Proofs.YtbjlfobjngogkaaGreatDoor.price most;split
 ·rw [if_neg (by rw [hg];decide)];split
  ·omega
  ·split
   ·unfold some';omega
   ·omega
 ·omega
theorem zu4 {e:Eng} {k:Nat} (h:e.TW k) (p:Int):Eng.TW {e with turns:=(e.turns.pay p).1} k∧(∀j,j≠k→((e.turns.pay p).1.has.getD j 0)=e.hasOf j)∧((e.turns.pay p).2=false→(e.turns.pay p).1=e.turns∧e.hasOf k<max p 0):=by
 have hw:=h.who;unfold Turns.pay;rw [if_neg (by omega)];have hk:e.turns.who.toNat=k:=by omega
 rw [hk];split
 ·rename_i c;exact⟨h,λj _=>rfl,λ_=>⟨rfl,c⟩⟩
 ·rename_i c;refine⟨⟨h.who,by simp only [JK];exact h.len,λj=> ?_,h.qu⟩,λj hj=> ?_,λhh=>(by cases hh)⟩
  ·have:=h.nn j
   unfold Eng.hasOf at this ⊢;simp only [zbq];split <;>omega
  ·rw [zbq,if_neg (λhh=>hj hh.1.symm)];rfl
structure Oth (k:Nat) (e e':Eng):Prop where
 seat:∀j,j≠k→e'.seat j=e.seat j
 has:∀j,j≠k→e'.hasOf j=e.hasOf j
 q:e'.turns.q=e.turns.q
 s:e'.s=e.s
 clock:e'.clock=e.clock
 tm:∀j,j≠k→e'.tm.getD j never=e.tm.getD j never
theorem zdw (l:List Int) {i j:Nat} (v:Int) (h:j≠i):(l.set i v).getD j never=l.getD j never:=by
 rw [JA,JS (λe=>h e.symm),←JA]
theorem zkf (l:List Int) {i:Nat} (v:Int) (h:i<l.length):(l.set i v).getD i never=v:=by
 rw [JA,QR h];rfl
def tmN (t:Int):Int:=if t=never then never else own t
theorem Oth.refl (k:Nat) (e:Eng):Oth k e e:=⟨λ_ _=>rfl,λ_ _=>rfl,rfl,rfl,rfl,λ_ _=>rfl⟩
theorem Oth.trans {k:Nat} {a b c:Eng} (h:Oth k a b) (h':Oth k b c):Oth k a c:=
 ⟨λj hj=>(h'.seat j hj).trans (h.seat j hj),λj hj=>(h'.has j hj).trans (h.has j hj),h'.q.trans h.q,h'.s.trans h.s,h'.clock.trans h.clock,λj hj=>(h'.tm j hj).trans (h.tm j hj)⟩
theorem zvs {e:Eng} {k:Nat} (h:e.TW k):(e.turns.leave k)={e.turns with who:=-1,has:=e.turns.has.set k 0}:=by
 have hw:=h.who;unfold Turns.leave Turns.fin;rw [if_pos hw,if_neg (by omega),if_neg (by decide)]
 have:e.turns.who.toNat=k:=by omega
 rw [this]
theorem zrb {e:Eng} {k:Nat} (ho:e.Ok) (ha:(e.co e.out).Al) (h:e.TW k) {x:Seat} (hk:e.seat k=some x):
  Oth k e (e.step k).2∧((e.step k).1=true→(e.step k).2.TW k)∧((e.step k).1=false→(e.step k).2.TI∧(e.step k).2.seat k=none)∧
   (x.d.ready e.clock=true→∃y,(e.step k).2.out=e.out++[zar x.id y]):=by
 have h0:=co_al.1 ha k x hk;have hss:=zev ho hk;unfold Eng.step at hss ⊢;rw [hk]at hss ⊢;dsimp only at hss ⊢;cases hst:x.d.step e.clock with
 | none=>
  rw [hst]at hss;dsimp only at hss ⊢;rw [if_pos h0];refine⟨Oth.refl k e,λ_=>h,λhh=>(by cases hh),λhr=> ?_⟩;unfold Dia.step at hst;rw [if_pos hr]at hst;cases hst
 | some y=>
  obtain⟨y,d'⟩:=y;rw [hst]at hss;dsimp only at hss ⊢;split
  ·rename_i h1;rw [if_pos h1]at hss;exact⟨⟨hss.2,λ_ _=>rfl,rfl,rfl,rfl,λ_ _=>rfl⟩,λ_=>⟨h.who,h.len,h.nn,h.qu⟩,λhh=>(by cases hh),λ_=>⟨y,rfl⟩⟩
  ·rename_i h1;rw [if_neg h1]at hss;have hl:=zvs h;have ht:(((e.setSeat k (some {x with d:=d'})).tell (zar x.id y)).gone k x.id).turns={e.turns with who:=-1,has:=e.turns.has.set k 0}:=hl;refine⟨⟨hss.2,λj hj=> ?_,by rw [ht],rfl,rfl,λj hj=>zdw _ _ hj⟩,λhh=>(by cases hh),λ_=>⟨⟨by rw [ht],by rw [ht];simp only [JK];exact h.len,λj=> ?_,by rw [ht];exact h.qu⟩,by rw [zbp,if_pos rfl]⟩,λ_=>⟨y,rfl⟩⟩
   ·unfold Eng.hasOf;rw [ht];simp only [zbq];rw [if_neg (λhh=>hj hh.1.symm)]
   ·have:=h.nn j
    unfold Eng.hasOf at this ⊢;rw [ht];simp only [zbq];split <;>omega
theorem zmb {e:Eng} (ha:(e.co e.out).Al) (k:Nat):((e.step k).2.co (e.step k).2.out).Al:=zbl (zog (acc:=[]) ha k) ha
theorem zjm:∀(f:Nat) (e:Eng) (k:Nat),e.Ok→(e.co e.out).Al→e.TW k→∀x,e.seat k=some x→
  Oth k e (Eng.spend f e k).2∧((Eng.spend f e k).1=true→(Eng.spend f e k).2.TW k)∧((Eng.spend f e k).1=false→(Eng.spend f e k).2.TI∧(Eng.spend f e k).2.seat k=none)∧nst x.id e.out≤nst x.id (Eng.spend f e k).2.out
 | 0,e,k,_,_,h,x,_=>⟨Oth.refl k e,λ_=>h,λhh=>(by cases hh),JG _⟩
 | f+1,e,k,ho,ha,h,x,hk=>by
  rw [Eng.spend,hk];dsimp only;split
  ·rename_i hr;obtain⟨p1,p2,p3⟩:=zu4 h x.d.price;have pw:=zp3 e.turns x.d.price;split
   ·have ho1:=zlg ho x.d.price;have o1:Oth k e {e with turns:=(e.turns.pay x.d.price).1}:=⟨λ_ _=>rfl,p2,pw.2.1,rfl,rfl,λ_ _=>rfl⟩;obtain⟨s1,s2,s3,s4⟩:=zrb (e:={e with turns:=(e.turns.pay x.d.price).1}) ho1 ha p1 hk;obtain⟨y,hy⟩:=s4 hr;have hle:nst x.id e.out≤nst x.id (({e with turns:=(e.turns.pay x.d.price).1}:Eng).step k).2.out:=by
     rw [hy,zeb];exact Nat.le_add_right _ _
    split
    ·rename_i c;have hso:=zbi ho1 k;have hss:=(zev ho1 (k:=k) (x:=x) hk).1 c;obtain⟨x',hx',hid⟩:=hss;have ih:=zjm f _ k hso (zmb (e:={e with turns:=(e.turns.pay x.d.price).1}) ha k) (s2 c) x' hx';obtain⟨i1,i2,i3,i4⟩:=ih;rw [hid]at i4;exact⟨(o1.trans s1).trans i1,i2,i3,Js hle i4⟩
    ·rename_i c;exact⟨o1.trans s1,λhh=>(by cases hh),λ_=>s3 (by simpa using c),hle⟩
   ·exact⟨Oth.refl k e,λ_=>h,λhh=>(by cases hh),JG _⟩
  ·exact⟨Oth.refl k e,λ_=>h,λhh=>(by cases hh),JG _⟩
theorem zt3 (f:Nat) {e:Eng} {k:Nat} (ho:e.Ok) (ha:(e.co e.out).Al) (h:e.TW k) {x:Seat} (hk:e.seat k=some x) (hr:x.d.ready e.clock=true):
  nst x.id e.out<nst x.id (Eng.spend (f+1) e k).2.out∨(Eng.spend (f+1) e k=(true,e)∧e.hasOf k<most e.s):=by
 rw [Eng.spend,hk];dsimp only;rw [if_pos hr];obtain⟨p1,p2,p3⟩:=zu4 h x.d.price;have d1:=ho.dO k x hk;split
 ·left;have ho1:=zlg ho x.d.price;obtain⟨s1,s2,s3,s4⟩:=zrb (e:={e with turns:=(e.turns.pay x.d.price).1}) ho1 ha p1 hk;obtain⟨y,hy⟩:=s4 hr;have hlt:nst x.id e.out<nst x.id (({e with turns:=(e.turns.pay x.d.price).1}:Eng).step k).2.out:=by
   rw [hy,zeb,zvc];exact Nat.lt_succ_self _
  split
  ·rename_i c;obtain⟨x',hx',hid⟩:=(zev ho1 (k:=k) (x:=x) hk).1 c;have ih:=(zjm f _ k (zbi ho1 k) (zmb (e:={e with turns:=(e.turns.pay x.d.price).1}) ha k) (s2 c) x' hx').2.2.2;rw [hid]at ih;omega
  ·exact hlt
 ·rename_i c;right;obtain⟨p4,p5⟩:=p3 (by simpa using c);refine⟨rfl,?_⟩;have hp:=zs3 (d:=x.d) (by rw [d1.2.1];exact ho.sg);rw [d1.2.1]at hp;have hg:=zal ho.sg
  have:0<most e.s:=by unfold most;omega
  omega
theorem zxv {e:Eng} {k:Nat} (h:e.TW k) {x:Seat} (hk:e.seat k=some x):(e.rest k).TI∧(∀j,j≠k→(e.rest k).hasOf j=e.hasOf j)∧(∀j,(e.rest k).seat j=e.seat j)∧(e.rest k).s=e.s∧(e.rest k).clock=e.clock∧(e.rest k).tm=tmSet e.tm k x.d.next∧
  (x.d.ready e.clock=true→(e.rest k).turns.q=qpush e.turns.q k∧(e.rest k).hasOf k=e.hasOf k)∧(x.d.ready e.clock=false→(e.rest k).turns.q=e.turns.q):=by
 have hw:=h.who;have hk':e.turns.who.toNat=k:=by omega
 unfold Eng.rest;rw [hk];dsimp only;unfold Turns.fin Eng.hasOf;rw [if_neg (by omega),hk'];cases hr:x.d.ready e.clock with
 | true=>
  rw [if_pos rfl];exact⟨⟨rfl,h.len,h.nn,h.qu⟩,λ_ _=>rfl,λ_=>rfl,rfl,rfl,rfl,λ_=>⟨rfl,rfl⟩,λhh=>(by cases hh)⟩
 | false=>
  rw [if_neg (by decide)];refine⟨⟨rfl,by simp only [JK];exact h.len,λj=> ?_,h.qu⟩,λj hj=> ?_,λ_=>rfl,rfl,rfl,rfl,λhh=>(by cases hh),λ_=>rfl⟩
  ·have:=h.nn j
   unfold Eng.hasOf at this ⊢;simp only [zbq];split <;>omega
  ·simp only [zbq];rw [if_neg (λhh=>hj hh.1.symm)]
theorem zl5 {e:Eng} (hq:e.turns.q=[]):e.turn=(false,e):=by
 have hb:e.turns.begin.2=none:=by
  unfold Turns.begin;rw [hq];split <;>rfl
 unfold Eng.turn;rw [hb]
structure TurnS (e:Eng) (j:Nat) (r:List Nat):Prop where
 on:e.turn.1=true
 ti:e.turn.2.TI
 seat:∀k,k≠j→e.turn.2.seat k=e.seat k
 has:∀k,k≠j→e.turn.2.hasOf k=e.hasOf k
 q:e.turn.2.turns.q=r∨e.turn.2.turns.q=r++[j]
 s:e.turn.2.s=e.s
 clock:e.turn.2.clock=e.clock
 tm:∀k,k≠j→e.turn.2.tm.getD k never=e.tm.getD k never
 sk:∀x,e.turn.2.seat j=some x→e.turn.2.tm.getD j never=tmN x.d.next∧(x.d.ready e.turn.2.clock=true→j∈e.turn.2.turns.q)
 own:∀x,e.seat j=some x→x.d.ready e.clock=true→nst x.id e.out<nst x.id e.turn.2.out∨
  (e.turn.2.out=e.out∧e.turn.2.seat j=some x∧e.turn.2.turns.q=r++[j]∧e.turn.2.hasOf j=e.hasOf j+e.s.quantum∧e.turn.2.hasOf j<most e.s)
theorem zeq {e:Eng} (ho:e.Ok) (ha:(e.co e.out).Al) (ti:e.TI) {j:Nat} {r:List Nat} (hq:e.turns.q=j::r):TurnS e j r:=by
 have hg:=zal ho.sg;have hnd:=ho.tn;rw [hq]at hnd;have hjr:j∉r:=(List.nodup_cons.1 hnd).1;have hb:e.turns.begin=({e.turns with q:=r,who:=j,has:=e.turns.has.set j (min (e.turns.has.getD j 0+e.turns.quantum) 2000000000)},some j):=by
  unfold Turns.begin;rw [if_neg (by have:=ti.who;omega),hq]
 obtain⟨x,hx⟩:=ho.tq j (by rw [hq];exact QE);have hjl:j<e.turns.has.length:=by rw [ti.len];exact ho.lt hx
 have hb2:e.turns.begin.2=some j:=by rw [hb]
 obtain⟨ho1,_⟩:=zhh ho hb2;have hge:e.hasOf j=e.turns.has.getD j 0:=rfl;have hnn:=ti.nn j;have tw:Eng.TW {e with turns:=e.turns.begin.1} j:=by
  rw [hb];refine⟨rfl,by simp only [JK];exact ti.len,λk=> ?_,ti.qu⟩
  have:=ti.nn k
  unfold Eng.hasOf at this ⊢;simp only [zbq];split
  ·have:=ti.qu;unfold Eng.hasOf at hnn;omega
  ·exact this
 have o0:(∀k,k≠j→Eng.hasOf {e with turns:=e.turns.begin.1} k=e.hasOf k)∧Eng.hasOf {e with turns:=e.turns.begin.1} j=min (e.hasOf j+e.s.quantum) 2000000000∧({e with turns:=e.turns.begin.1}:Eng).turns.q=r:=by
  rw [hb];refine⟨λk hk=> ?_,?_,rfl⟩
  ·unfold Eng.hasOf;simp only [zbq];rw [if_neg (λhh=>hk hh.1.symm)]
  ·unfold Eng.hasOf;simp only [zbq];rw [if_pos (by simp [hjl]),ti.qu]
 obtain⟨s1,s2,s3,s4⟩:=zjm ((e.turns.begin.1.has.getD j 0).toNat+1) {e with turns:=e.turns.begin.1} j ho1 ha tw x hx;have s5:=zt3 ((e.turns.begin.1.has.getD j 0).toNat) (e:={e with turns:=e.turns.begin.1}) ho1 ha tw hx;have hso:=zmc ((e.turns.begin.1.has.getD j 0).toNat+1) ho1 j (x:=x) hx;have ht:e.turn=if(Eng.spend ((e.turns.begin.1.has.getD j 0).toNat+1) {e with turns:=e.turns.begin.1} j).1 then(true,(Eng.spend ((e.turns.begin.1.has.getD j 0).toNat+1) {e with turns:=e.turns.begin.1} j).2.rest j)else(true,(Eng.spend ((e.turns.begin.1.has.getD j 0).toNat+1) {e with turns:=e.turns.begin.1} j).2):=by
  unfold Eng.turn;rw [hb2]
 generalize hy:Eng.spend ((e.turns.begin.1.has.getD j 0).toNat+1) {e with turns:=e.turns.begin.1} j=y at *;have hmost:most e.s≤4097:=by unfold most;omega
 by_cases c:y.1=true
 ·rw [if_pos c]at ht;obtain⟨x',hx'⟩:=hso.2 c;obtain⟨r1,r2,r3,r4,r5,r8,r6,r7⟩:=zxv (s2 c) hx';have hq':y.2.turns.q=r:=s1.q.trans o0.2.2;rw [hq']at r6 r7;have hqp:qpush r j=r++[j]:=by unfold qpush;rw [if_neg hjr]
  rw [hqp]at r6;refine⟨by rw [ht],by rw [ht];exact r1,λk hk=>by rw [ht];exact(r3 k).trans (s1.seat k hk),λk hk=>by rw [ht];exact(r2 k hk).trans ((s1.has k hk).trans (o0.1 k hk)),?_,by rw [ht];exact r4.trans s1.s,by rw [ht];exact r5.trans s1.clock,λk hk=> ?_,λz hz=> ?_,λz hz hr=> ?_⟩
  ·rw [ht];cases hr:x'.d.ready y.2.clock with
   | true=>exact .inr (r6 hr).1
   | false=>exact .inl (r7 hr)
  ·rw [ht];show(y.2.rest j).tm.getD k never=_;rw [r8];exact(zdw _ _ hk).trans (s1.tm k hk)
  ·rw [ht]at hz ⊢;dsimp only at hz ⊢;have hz:=(r3 j).symm.trans hz;rw [hx']at hz;cases hz;have hl4:=hso.1.l4;have hjt:=hso.1.lt hx';refine⟨?_,λhr=> ?_⟩
   ·rw [r8];exact zkf _ _ (by omega)
   ·rw [r5]at hr;rw [(r6 hr).1];exact QH _ (Jg.2 rfl)
  ·obtain rfl:x=z:=by rw [hx]at hz;exact JQ hz
   rcases s5 hr with h5 | ⟨h5,h6⟩
   ·left;rw [ht];show _<nst x.id (y.2.rest j).out;rw [ziq];exact h5
   ·right;rw [h5]at hx' r6 ht;dsimp only at hx' r6 ht;obtain rfl:x=x':=by
     have:e.seat j=some x':=hx'
     rw [hx]at this;exact JQ this
    obtain⟨q1,q2⟩:=r6 hr;rw [ht];have o2:=o0.2.1;refine⟨by rw [ziq],?_,q1,?_,?_⟩
    ·rw [zn2];exact hz
    ·rw [q2,o2];rw [o2]at h6;change _<most e.s at h6;omega
    ·rw [q2];exact h6
 ·rw [if_neg c]at ht;refine⟨by rw [ht],by rw [ht];exact(s3 (by simpa using c)).1,λk hk=>by rw [ht];exact s1.seat k hk,λk hk=>by rw [ht];exact(s1.has k hk).trans (o0.1 k hk),.inl (by rw [ht];exact s1.q.trans o0.2.2),by rw [ht];exact s1.s,by rw [ht];exact s1.clock,λk hk=>by rw [ht];exact s1.tm k hk,λz hz=> ?_,λz hz hr=> ?_⟩
  ·rw [ht]at hz
   have:=(s3 (by simpa using c)).2
   dsimp only at hz;rw [this]at hz;cases hz
  obtain rfl:x=z:=by rw [hx]at hz;exact JQ hz
  rcases s5 hr with h5 | ⟨h5,h6⟩
  ·left;rw [ht];exact h5
  ·rw [h5]at c;exact absurd rfl c
theorem ziv (d:Due) (now:Int):(d.over now).2=true↔min (own d.lim) (own d.cut)≠never∧min (own d.lim) (own d.cut)≤own now:=by
 have h1:own (own d.lim)=own d.lim:=by unfold own;omega
 have h2:own (own d.cut)=own d.cut:=by unfold own;omega
 unfold Due.over tdue;rw [h1,h2];split
 ·rename_i c;simp only [JT,QJ,ne_eq,JD]at c;rw [Int.min_eq_left c.1];exact⟨λ_=>c.2,λ_=>rfl⟩
 ·rename_i c;split
  ·rename_i c2;simp only [JT,QJ,ne_eq,JD]at c2;rw [Int.min_eq_right (by omega)];exact⟨λ_=>c2.2,λ_=>rfl⟩
  ·rename_i c2;simp only [JT,QJ,ne_eq,JD]at c c2;refine⟨λh=>(by cases h),λh=> ?_⟩;exfalso;rcases Int.le_total (own d.lim) (own d.cut)with hh | hh
   ·rw [Int.min_eq_left hh]at h;exact c ⟨hh,h⟩
   ·rw [Int.min_eq_right hh]at h;by_cases c3:own d.cut=own d.lim
    ·exact c ⟨by omega,by rw [←c3];exact h⟩
    ·exact c2 ⟨by omega,h⟩
theorem zmp {a b:Int} (h:a≤b):own a≤own b:=by unfold own;omega
theorem zoj {d:Due} {a b:Int} (h:a≤b) (ho:(d.over a).2=true):(d.over b).2=true:=by
 rw [ziv]at ho ⊢;exact⟨ho.1,Int.le_trans ho.2 (zmp h)⟩
theorem zsp {d:Due} {a b:Int} (h:a≤b) (ho:d.woken a=true):d.woken b=true:=by
 unfold Due.woken tdue at ho ⊢;simp only [JT,QJ,ne_eq,JD]at ho ⊢;exact⟨ho.1,Int.le_trans ho.2 (zmp h)⟩
theorem zva {d:Due} (t:Int) {now:Int} (hd:d.cut≤never) (ho:(d.over now).2=true):((d.cuts t).over now).2=true:=by
 rw [ziv]at ho ⊢;have e1:(d.cuts t).lim=d.lim:=rfl;have e2:(d.cuts t).cut=min (min never (own d.cut)) (own t):=rfl;rw [e1,e2]
 have:=nev
 unfold own at *;omega
structure Dia.More (d d':Dia):Prop where
 st:d'.status=d.status
 op:d'.op=d.op
 nw:d'.now=d.now
 til:d'.due.til=d.due.til
 ov:∀n,(d.due.over n).2=true→(d'.due.over n).2=true
 lf:d.out.left=0→d'.out.left=0
 fr:d'.win.fresh=d.win.fresh
 iq:d.inq.length≤d'.inq.length
 ef:d.eof=true→d'.eof=true
theorem Dia.More.refl (d:Dia):d.More d:=⟨rfl,rfl,rfl,rfl,λ_ h=>h,λh=>h,rfl,JG _,λh=>h⟩
theorem zn3 {d d':Dia} (h:d.More d') {a b:Int} (hab:a≤b) (hr:d.readyAt a=true):d'.readyAt b=true:=by
 unfold Dia.readyAt at hr ⊢;rw [h.op];by_cases ho:(d.due.over a).2=true
 ·rw [if_pos (zoj hab (h.ov a ho))]
 ·rw [if_neg ho]at hr;by_cases ho':(d'.due.over b).2=true
  ·rw [if_pos ho']
  ·rw [if_neg ho'];split
   ·rename_i k;rw [if_pos k]at hr;rw [Jd]at hr ⊢;exact h.lf hr
   ·rename_i k;rw [if_neg k]at hr;have hw:d.due.woken a=true→d'.due.woken b=true:=λhh=>by
     have:=zsp hab hh
     unfold Due.woken at this ⊢;rw [h.til];exact this
    split
    ·rename_i k2;rw [if_pos k2]at hr;simp only [Bool.or_eq_true,JD]at hr ⊢;rcases hr with hr | hr | hr | hr
     ·left;rw [h.fr];exact hr
     ·right;left;have:=h.iq;omega
     ·exact .inr (.inr (.inl (h.ef hr)))
     ·exact .inr (.inr (.inr (hw hr)))
    ·rename_i k2;rw [if_neg k2]at hr;split
     ·rename_i k3;rw [if_pos k3]at hr;exact hw hr
     ·rfl
theorem zlc {d d':Dia} (h:d.More d') {a b:Int} (hab:a≤b) (hr:d.ready a=true):d'.ready b=true:=by
 unfold Dia.ready Dia.runs at hr ⊢;rw [JT]at hr ⊢;refine⟨by rw [h.st];exact hr.1,?_⟩;rw [h.nw];exact zn3 h (by omega) hr.2
theorem zx3 (d:Dia) (b:List UInt8):d.More (d.put b):=by
 unfold Dia.put;split
 ·exact⟨rfl,rfl,rfl,rfl,λ_ h=>h,λh=>h,rfl,by simp,λh=>h⟩
 ·exact Dia.More.refl d
theorem zwg (d:Dia):d.More d.ends:=by
 unfold Dia.ends;split
 ·exact⟨rfl,rfl,rfl,rfl,λ_ h=>h,λh=>h,rfl,JG _,λ_=>rfl⟩
 ·exact Dia.More.refl d
theorem zty (d:Dia) (n:Int):d.More (d.take n):=by
 unfold Dia.take;split
 ·refine⟨rfl,rfl,rfl,rfl,λ_ h=>h,λh=> ?_,rfl,JG _,λh=>h⟩;unfold Wtr.left at h ⊢;show d.out.laid-d.out.upto n=0;unfold Wtr.upto;omega
 ·exact Dia.More.refl d
theorem zy3 {d:Dia} (h:d.Ok) (t:Int):d.More (d.cut t):=by
 unfold Dia.cut;split
 ·exact⟨rfl,rfl,rfl,rfl,λn hh=>zva t h.dc hh,λh=>h,rfl,JG _,λh=>h⟩
 ·exact Dia.More.refl d
structure Lv (k:Nat) (id:Int) (e e':Eng):Prop where
 h:∃x x',e.seat k=some x∧e'.seat k=some x'∧x.id=id∧x'.id=id∧(x.d.ready e.clock=true→x'.d.ready e'.clock=true)
 has:e'.hasOf k=e.hasOf k
 q:k∈e.turns.q→k∈e'.turns.q∧e'.turns.q.idxOf k≤e.turns.q.idxOf k
theorem Lv.trans {k:Nat} {id:Int} {a b c:Eng} (h:Lv k id a b) (h':Lv k id b c):Lv k id a c:=by
 obtain⟨x,y,h1,h2,h3,h4,h5⟩:=h.h;obtain⟨y',z,g1,g2,g3,g4,g5⟩:=h'.h;rw [h2]at g1;cases g1;refine⟨⟨x,z,h1,g2,h3,g4,λhr=>g5 (h5 hr)⟩,h'.has.trans h.has,λhq=> ?_⟩;obtain⟨q1,q2⟩:=h.q hq;obtain⟨q3,q4⟩:=h'.q q1;exact⟨q3,Js q4 q2⟩
structure G3 (e:Eng):Prop where
 ok:e.Ok
 al:(e.co e.out).Al
 ti:e.TI
def Kp (k:Nat) (id:Int) (e e':Eng):Prop:=nst id e.out<nst id e'.out∨(nst id e.out=nst id e'.out∧Lv k id e e')
structure Stp (k:Nat) (id:Int) (e e':Eng):Prop where
 g:G3 e→G3 e'
 m:G3 e→nst id e.out≤nst id e'.out
 s:G3 e→e'.s=e.s
 c:G3 e→e'.clock=e.clock
 kp:G3 e→(∃x,e.seat k=some x∧x.id=id)→Kp k id e e'
theorem Stp.trans {k:Nat} {id:Int} {a b c:Eng} (h:Stp k id a b) (h':Stp k id b c):Stp k id a c:=by
 refine⟨λg=>h'.g (h.g g),λg=>Js (h.m g) (h'.m (h.g g)),λg=>(h'.s (h.g g)).trans (h.s g),λg=>(h'.c (h.g g)).trans (h.c g),λg hx=> ?_⟩;have g1:=h.g g;rcases h.kp g hx with h1 | ⟨h1,h2⟩
 ·exact .inl (QY h1 (h'.m g1))
 ·obtain⟨x,y,_,h3,_,h4,_⟩:=h2.h;rcases h'.kp g1 ⟨y,h3,h4⟩with h5 | ⟨h5,h6⟩
  ·exact .inl (by omega)
  ·exact .inr ⟨h1.trans h5,h2.trans h6⟩
theorem Stp.refl (k:Nat) (id:Int) (e:Eng):Stp k id e e:=
 ⟨λg=>g,λ_=>JG _,λ_=>rfl,λ_=>rfl,λ_ ⟨x,hx,hid⟩=> .inr ⟨rfl,⟨x,x,hx,hx,hid,hid,λh=>h⟩,rfl,λh=>⟨h,JG _⟩⟩⟩
theorem zb5 {α:Type} {k:Nat} {id:Int} {f:Eng→α→Eng} (hf:∀e a,Stp k id e (f e a)):∀(l:List α) (e:Eng),Stp k id e (l.foldl f e)
 | [],e=>Stp.refl k id e
 | a::l,e=>(hf e a).trans (zb5 hf l (f e a))
theorem zce {id:Int} {l:List EvM} {v:EvM} (h:v.kind≠8):nst id (l++[v])=nst id l:=by
 rw [zeb]
 have:nst id [v]=0:=by simp [nst,h]
 omega
theorem zvv {l:List Nat} {k j:Nat} (h:k∈l):(l++[j]).idxOf k=l.idxOf k:=by
 rw [List.idxOf_append,if_pos h]
theorem zzj {t:Turns} {j k:Nat} (h:k∈t.q):k∈(t.wake j).q∧(t.wake j).q.idxOf k≤t.q.idxOf k:=by
 unfold Turns.wake;split
 ·exact⟨h,JG _⟩
 ·unfold qpush;simp only;split
  ·exact⟨h,JG _⟩
  ·exact⟨QK _ h,by rw [zvv h];exact JG _⟩
theorem zw9 (t:Turns) (j:Nat):(t.wake j).who=t.who∧(t.wake j).has=t.has∧(t.wake j).quantum=t.quantum:=by unfold Turns.wake;split <;>exact⟨rfl,rfl,rfl⟩
theorem zr8 {a k:Nat} {l:List Nat} (h:a≠k):(a::l).idxOf k=l.idxOf k+1:=by
 rw [List.idxOf_cons]
 have:(a == k)=false:=beq_false_of_ne h
 rw [this];rfl
theorem ti_of {e e':Eng} (h:e.TI) (ht:e'.turns=e.turns) (hs:e'.s=e.s):e'.TI:=⟨by rw [ht];exact h.who,by rw [ht,hs];exact h.len,λk=>by unfold Eng.hasOf;rw [ht];exact h.nn k,by rw [ht,hs];exact h.qu⟩
theorem zow {k j:Nat} (hne:k≠j):∀l:List Nat,k∈l→k∈l.erase j∧(l.erase j).idxOf k≤l.idxOf k
 | [],h=>by cases h
 | a::l,h=>by
  rw [List.erase_cons];by_cases c:(a == j)=true
  ·rw [if_pos c];have ha:a≠k:=λe=>hne (by rw [←e];exact Jd.1 c);have hl:k∈l:=by rcases Jp.1 h with h | h;exact absurd h.symm ha;exact h
   refine⟨hl,?_⟩;rw [zr8 ha];omega
  ·rw [if_neg c];by_cases ha:a=k
   ·subst ha;exact⟨QE,by simp⟩
   ·have hl:k∈l:=by rcases Jp.1 h with h | h;exact absurd h.symm ha;exact h
    obtain⟨h1,h2⟩:=zow hne l hl;refine⟨Jo _ h1,?_⟩;rw [zr8 ha,zr8 ha];omega
section
variable {k:Nat} {id:Int} {e:Eng}
theorem al_of {e':Eng} (h:(e.co e.out).Al) (hs:∀i x,e'.seat i=some x→∃j y,e.seat j=some y∧y.d.status=x.d.status):(e'.co e'.out).Al:=by
 refine co_al.2 λi x hx=> ?_;obtain⟨j,y,h1,h2⟩:=hs i x hx;rw [←h2];exact co_al.1 h j y h1
theorem zcv (j:Nat):Stp k id e (e.settle j):=by
 have hs:∀i,(e.settle j).seat i=e.seat i:=za0 e j;have ho:(e.settle j).out=e.out:=zbc e j;have hc:(e.settle j).clock=e.clock:=by unfold Eng.settle;cases e.seat j <;>rfl
 have ht:(e.settle j).turns=e.turns∨(e.settle j).turns=e.turns.wake j:=by
  unfold Eng.settle;cases e.seat j with
  | none=>exact .inl rfl
  | some x=>dsimp only;split;exact .inr rfl;exact .inl rfl
 have hf:(e.settle j).turns.who=e.turns.who∧(e.settle j).turns.has=e.turns.has∧(e.settle j).turns.quantum=e.turns.quantum:=by
  rcases ht with h | h
  ·rw [h];exact⟨rfl,rfl,rfl⟩
  ·rw [h];exact zw9 _ _
 have hsx:=(zhq e j).1;refine⟨λg=>⟨zc0 g.ok,al_of g.al λi x hx=>⟨i,x,by rw [hs]at hx;exact hx,rfl⟩,⟨hf.1.trans g.ti.who,by rw [hf.2.1,hsx];exact g.ti.len,λi=> ?_,by rw [hf.2.2,hsx];exact g.ti.qu⟩⟩,λ_=>by rw [ho];exact JG _,λ_=>hsx,λ_=>hc,λg ⟨x,hx,hid⟩=> .inr ⟨by rw [ho],⟨x,x,hx,by rw [hs];exact hx,hid,hid,λh=>by rw [hc];exact h⟩,?_,λhq=> ?_⟩⟩
 ·unfold Eng.hasOf;rw [hf.2.1];exact g.ti.nn i
 ·unfold Eng.hasOf;rw [hf.2.1]
 ·rcases ht with h | h
  ·rw [h];exact⟨hq,JG _⟩
  ·rw [h];exact zzj hq
theorem zc1 {j:Nat} {x y:Seat} (hj:e.seat j=some x) (hid:y.id=x.id) (hm:x.d.More y.d) (hok:G3 e→(e.setSeat j (some y)).Ok):Stp k id e (e.setSeat j (some y)):=by
 have hs:=zag hj y;refine⟨λg=>⟨hok g,al_of g.al λi z hz=> ?_,ti_of g.ti rfl rfl⟩,λ_=>JG _,λ_=>rfl,λ_=>rfl,λg ⟨z,hz,hzid⟩=> .inr ⟨rfl,⟨z,?_⟩,rfl,λh=>⟨h,JG _⟩⟩⟩
 ·rw [hs]at hz;split at hz
  ·cases hz;exact⟨j,x,hj,hm.st.symm⟩
  ·exact⟨i,z,hz,rfl⟩
 ·by_cases c:k=j
  ·subst c;rw [hj]at hz;cases hz;exact⟨y,hj,by rw [hs,if_pos rfl],hzid,hid.trans hzid,λhr=>zlc hm (Int.le_refl _) hr⟩
  ·exact⟨z,hz,by rw [hs,if_neg c];exact hz,hzid,hzid,λh=>h⟩
theorem zl6 {v:EvM} (h:v.kind≠8):Stp k id e (e.tell v):=
 ⟨λg=>⟨zd6 g.ok v,g.al,ti_of g.ti rfl rfl⟩,λ_=>by show _≤nst id (e.out++[v]);rw [zce h];exact JG _,λ_=>rfl,λ_=>rfl,λ_ ⟨x,hx,hid⟩=> .inr ⟨(zce h).symm,⟨x,x,hx,hx,hid,hid,λh=>h⟩,rfl,λh=>⟨h,JG _⟩⟩⟩
theorem zmw {t:Turns} (hw:t.who= -1) (j:Nat):(t.leave j).who= -1∧(t.leave j).has.length=t.has.length∧(t.leave j).quantum=t.quantum∧(∀i,(t.leave j).has.getD i 0=t.has.getD i 0∨(t.leave j).has.getD i 0=0)∧(∀i,i≠j→(t.leave j).has.getD i 0=t.has.getD i 0∧(i∈t.q→i∈(t.leave j).q∧(t.leave j).q.idxOf i≤t.q.idxOf i)):=by
 unfold Turns.leave;rw [if_neg (by omega)];split
 ·refine⟨hw,by simp only [JK],rfl,λi=> ?_,λi hi=>⟨?_,λhq=>zow hi _ hq⟩⟩
  ·simp only [zbq];split
   ·exact .inr rfl
   ·exact .inl rfl
  ·simp only [zbq];rw [if_neg (λhh=>hi hh.1.symm)]
 ·exact⟨hw,rfl,rfl,λ_=> .inl rfl,λ_ _=>⟨rfl,λh=>⟨h,JG _⟩⟩⟩
theorem zl8 (j:Nat):Stp k id e (e.step j).2:=by
 cases hj:e.seat j with
 | none=>
  have:(e.step j).2=e:=by unfold Eng.step;rw [hj]
  rw [this];exact Stp.refl k id e
 | some x=>
  cases hst:x.d.step e.clock with
  | none=>
   by_cases h0:x.d.status=0
   ·have:(e.step j).2=e:=by unfold Eng.step;rw [hj];dsimp only;rw [hst];dsimp only;rw [if_pos h0]
    rw [this];exact Stp.refl k id e
   ·exact⟨λg=>absurd (co_al.1 g.al j x hj) h0,λg=>absurd (co_al.1 g.al j x hj) h0,λg=>absurd (co_al.1 g.al j x hj) h0,λg=>absurd (co_al.1 g.al j x hj) h0,λg=>absurd (co_al.1 g.al j x hj) h0⟩
  | some y=>
   obtain⟨y,d'⟩:=y;have hs:=zag hj {x with d:=d'};have hn:∀e':Eng,e'.out=e.out++[zar x.id y]→nst id e.out≤nst id e'.out∧(x.id=id→nst id e.out<nst id e'.out)∧(x.id≠id→nst id e'.out=nst id e.out):=by
    intro e' he;rw [he,zeb];refine⟨Nat.le_add_right _ _,λhid=> ?_,λhid=> ?_⟩
    ·rw [←hid,zvc];omega
    ·have:nst id [zar x.id y]=0:=by simp [nst,zar,hid]
     omega
   by_cases h1:d'.status=0
   ·have he:(e.step j).2=(e.setSeat j (some {x with d:=d'})).tell (zar x.id y):=by
     unfold Eng.step;rw [hj];dsimp only;rw [hst];dsimp only;rw [if_pos h1]
    have hn:=hn (e.step j).2 (by rw [he];rfl);refine⟨λg=>⟨zbi g.ok j,zmb g.al j,by rw [he];exact ti_of g.ti rfl rfl⟩,λ_=>hn.1,λ_=>by rw [he];rfl,λ_=>by rw [he];rfl,λg ⟨z,hz,hid⟩=> ?_⟩;by_cases c:k=j
    ·subst c;rw [hj]at hz;cases hz;exact .inl (hn.2.1 hid)
    ·right;have hne:x.id≠id:=λhh=>c (g.ok.nd _ _ _ _ hz hj (hid.trans hh.symm));refine⟨(hn.2.2 hne).symm,⟨z,z,hz,?_,hid,hid,?_⟩,?_,?_⟩
     ·rw [he];exact(hs k).trans (by rw [if_neg c];exact hz)
     ·rw [he];exact λh=>h
     ·rw [he];rfl
     ·rw [he];exact λh=>⟨h,JG _⟩
   ·have he:(e.step j).2=((e.setSeat j (some {x with d:=d'})).tell (zar x.id y)).gone j x.id:=by
     unfold Eng.step;rw [hj];dsimp only;rw [hst];dsimp only;rw [if_neg h1]
    have ht:(e.step j).2.turns=e.turns.leave j:=by rw [he];rfl
    have hn:=hn (e.step j).2 (by rw [he];rfl);refine⟨λg=>⟨zbi g.ok j,zmb g.al j,?_⟩,λ_=>hn.1,λ_=>by rw [he];rfl,λ_=>by rw [he];rfl,λg ⟨z,hz,hid⟩=> ?_⟩
    ·obtain⟨l1,l2,l3,l4,l5⟩:=zmw g.ti.who j;have hsx:(e.step j).2.s=e.s:=by rw [he];rfl
     refine⟨by rw [ht];exact l1,by rw [ht,l2,hsx];exact g.ti.len,λi=> ?_,by rw [ht,l3,hsx];exact g.ti.qu⟩
     have:=g.ti.nn i
     unfold Eng.hasOf at this ⊢;rw [ht];rcases l4 i with h | h
     ·rw [h];exact this
     ·rw [h];exact Int.le_refl _
    ·by_cases c:k=j
     ·subst c;rw [hj]at hz;cases hz;exact .inl (hn.2.1 hid)
     ·right;obtain⟨l1,l2,l3,l4,l5⟩:=zmw g.ti.who j;have hne:x.id≠id:=λhh=>c (g.ok.nd _ _ _ _ hz hj (hid.trans hh.symm));refine⟨(hn.2.2 hne).symm,⟨z,z,hz,?_,hid,hid,?_⟩,?_,?_⟩
      ·rw [he,zbp,if_neg c];exact(hs k).trans (by rw [if_neg c];exact hz)
      ·rw [he];exact λh=>h
      ·unfold Eng.hasOf;rw [ht];exact(l5 k c).1
      ·rw [ht];exact(l5 k c).2
theorem zma (n:Int):Stp k id e (e.open n):=by
 by_cases hr:e.refused n≠0
 ·have he:e.open n={e with slots:=e.slots.skip,out:=e.out++[zbz e.slots.skipped n (e.refused n)]}:=by unfold Eng.open;rw [if_pos hr]
  have hk:(zbz e.slots.skipped n (e.refused n)).kind≠8:=by show(3:Int)≠8;decide
  refine⟨λg=>⟨zhx g.ok n,by rw [he];exact g.al,by rw [he];exact ti_of g.ti rfl rfl⟩,λ_=>by rw [he];show _≤nst id (e.out++_);rw [zce hk];exact JG _,λ_=>by rw [he],λ_=>by rw [he],λg ⟨x,hx,hid⟩=> .inr ⟨?_,⟨x,x,hx,by rw [he];exact hx,hid,hid,by rw [he];exact λh=>h⟩,by rw [he];rfl,by rw [he];exact λh=>⟨h,JG _⟩⟩⟩;rw [he];exact(zce hk).symm
 ·have hr0:=Decidable.not_not.1 hr
  let e1:Eng:={e with slots:=e.slots.open,seats:=e.seats.set e.slots.first (some ⟨e.slots.next,Dia.new e.s (e.scripts.getD n.toNat PrM.zero) e.clock,[],false⟩),out:=e.out++[za5 e.slots.next n]}
  have he:e.open n=e1.settle e.slots.first:=by unfold Eng.open;rw [if_neg hr]
  have hk:(za5 e.slots.next n).kind≠8:=by show(2:Int)≠8;decide
  have key:Stp k id e e1:=by
   refine⟨λg=>⟨zg2 g.ok hr0,?_,ti_of g.ti rfl rfl⟩,λ_=>by show _≤nst id (e.out++_);rw [zce hk];exact JG _,λ_=>rfl,λ_=>rfl,λg ⟨x,hx,hid⟩=> .inr ⟨(zce hk).symm,⟨x,x,hx,?_,hid,hid,λh=>h⟩,rfl,λh=>⟨h,JG _⟩⟩⟩
   ·have:=zbl (zj1 (acc:=[]) g.ok n) g.al
    rw [he]at this;have hse:(e1.settle e.slots.first).seats=e1.seats:=by unfold Eng.settle;cases e1.seat e.slots.first <;>rfl
    intro i z hz;refine this i z ?_;show(e1.settle e.slots.first).seats[i]? =_;rw [hse];exact hz
   ·obtain⟨r1,r2,r3,r4,r5⟩:=zb6 hr0;obtain⟨f1,f2⟩:=zcw r5;have hne:e.slots.first≠k:=λhh=>by
     have hw:=g.ok.who hx;rw [hh,hw]at f2
     have:=(g.ok.nx k x hx).1
     have:=JQ f2
     omega
    unfold Eng.seat at hx ⊢;show(e.seats.set e.slots.first _).getD k none=_;rw [JA,JS hne,←JA];exact hx
  rw [he];exact key.trans (zcv _)
theorem zjh (o:OfferM):Stp k id e (e.offer o):=by
 cases hsl:e.slots.slot o.id with
 | none=>unfold Eng.offer;rw [hsl];exact Stp.refl k id e
 | some j=>
  cases hj:e.seat j with
  | none=>unfold Eng.offer;rw [hsl];dsimp only;rw [hj];exact Stp.refl k id e
  | some x=>
   by_cases c:x.eof=true∨4096<o.bytes.size
   ·unfold Eng.offer;rw [hsl];dsimp only;rw [hj];dsimp only;rw [if_pos c];exact Stp.refl k id e
   ·have he:e.offer o=e.setSeat j (some {x with q:=x.q++o.bytes.data.toList,eof:=o.eof}):=by
     unfold Eng.offer;rw [hsl];dsimp only;rw [hj];dsimp only;rw [if_neg c]
    rw [he];refine zc1 hj rfl (Dia.More.refl _) λg=> ?_;rw [←he];exact zfm g.ok o
theorem zq9 (t:Int) (now:Bool) (id':Int):Stp k id e (e.cut1 t now id'):=by
 unfold Eng.cut1;cases e.slots.slot id' with
 | none=>exact Stp.refl k id e
 | some j=>
  dsimp only;cases hj:e.seat j with
  | none=>exact Stp.refl k id e
  | some x=>
   dsimp only;have h1:G3 e→Stp k id e (e.setSeat j (some {x with d:=x.d.cut t})):=λg=>by
    obtain⟨d1,d2,d4⟩:=g.ok.dO j x hj;have hc:=zbv x.d t;refine zc1 hj rfl (zy3 d1 t) λ_=> ?_;exact zaq (y:={x with d:=x.d.cut t}) g.ok hj rfl ⟨zly d1 t,hc.1.trans d2,by show(x.d.cut t).now≤_;rw [hc.2.2];exact d4⟩
   have h2:∀e',(G3 e→Stp k id e e')→Stp k id e e':=λe' h=>⟨λg=>(h g).g g,λg=>(h g).m g,λg=>(h g).s g,λg=>(h g).c g,λg=>(h g).kp g⟩;have h3:=h2 _ h1;split
   ·exact h3.trans (zcv j)
   ·split
    ·exact(h3.trans (zl8 j)).trans (zcv j)
    ·exact h3.trans (zl8 j)
theorem zt0 (t:Int) (now:Bool):Stp k id e (e.cut t now):=by
 unfold Eng.cut;have h1:Stp k id e {e with drains:=true,out:=e.out++[zbb t]}:=by
  have hk:(zbb t).kind≠8:=by show(7:Int)≠8;decide
  exact⟨λg=>⟨{g.ok with},g.al,ti_of g.ti rfl rfl⟩,λ_=>by show _≤nst id (e.out++[zbb t]);rw [zce hk];exact JG _,λ_=>rfl,λ_=>rfl,λ_ ⟨x,hx,hid⟩=> .inr ⟨(zce hk).symm,⟨x,x,hx,hx,hid,hid,λh=>h⟩,rfl,λh=>⟨h,JG _⟩⟩⟩
 exact h1.trans (zb5 (λe a=>zq9 t now a) _ _)
theorem zji (r:RoundM):Stp k id e (e.drain r):=by
 unfold Eng.drain;split
 ·exact zt0 _ _
 ·split
  ·exact zt0 _ _
  ·exact Stp.refl k id e
theorem zzt {c:Prop} [Decidable c] {a b:Eng} (ha:Stp k id e a) (hb:Stp k id e b):Stp k id e (if c then a else b):=by split <;>assumption
theorem stp_g {e':Eng} (h:G3 e→Stp k id e e'):Stp k id e e':=⟨λg=>(h g).g g,λg=>(h g).m g,λg=>(h g).s g,λg=>(h g).c g,λg=>(h g).kp g⟩
theorem zl9 (j:Nat):Stp k id e (e.read j):=by
 cases hj:e.seat j with
 | none=>unfold Eng.read;rw [hj];exact Stp.refl k id e
 | some x=>
  by_cases c0:x.d.room=0
  ·unfold Eng.read;rw [hj];dsimp only;rw [if_pos c0];exact Stp.refl k id e
  ·refine stp_g λg=> ?_;rw [zey hj c0];obtain⟨d1,d2,d4⟩:=g.ok.dO j x hj;have h1:Stp k id e (e.read1 j x):=by
    unfold Eng.read1;split
    ·exact Stp.refl k id e
    ·have hl:=zcs x.d (x.q.take x.d.room);refine Stp.trans (zc1 (y:=x.read1) hj rfl (zx3 x.d _) λ_=> ?_) (zl6 (v:=zd0 x.id ⟨⟨x.reads⟩⟩) (by show(4:Int)≠8;decide));exact zaq (y:=x.read1) g.ok hj rfl ⟨zob d1 _,hl.1.trans d2,by show(x.d.put _).now≤_;rw [hl.2.2];exact d4⟩
   obtain⟨ok1,seat1⟩:=zro g.ok hj;obtain⟨g1,g2,g4⟩:=ok1.dO j _ seat1;split
   ·have hl:=zcl x.got.d;refine Stp.trans h1 (Stp.trans (zc1 (y:={x.got with d:=x.got.d.ends}) seat1 rfl (zwg _) λ_=> ?_) (zl6 (v:=evEof x.id) (by show(5:Int)≠8;decide)));exact zaq (y:={x.got with d:=x.got.d.ends}) ok1 seat1 rfl ⟨zqm g1,hl.1.trans g2,by show(x.got.d.ends).now≤_;rw [hl.2.2];exact g4⟩
   ·exact h1
theorem zjg (j:Nat) (n:Int):Stp k id e (e.write j n):=by
 cases hj:e.seat j with
 | none=>unfold Eng.write;rw [hj];exact Stp.refl k id e
 | some x=>
  refine stp_g λg=> ?_;obtain⟨d1,d2,d4⟩:=g.ok.dO j x hj;have hl:=zcf x.d n;have h1:Stp k id e (e.setSeat j (some {x with d:=x.d.take n})):=zc1 hj rfl (zty x.d n) λ_=>
   zaq (y:={x with d:=x.d.take n}) g.ok hj rfl ⟨zpq d1 n,hl.1.trans d2,by show(x.d.take n).now≤_;rw [hl.2.2];exact d4⟩
  unfold Eng.write;rw [hj];dsimp only;split
  ·exact h1
  ·exact h1.trans (zl6 (v:=zdf x.id (x.d.taken n)) (by show(6:Int)≠8;decide))
theorem zhn (r:ReportM):Stp k id e (e.report r):=by
 unfold Eng.report;cases e.slots.slot r.id with
 | none=>exact Stp.refl k id e
 | some j=>
  dsimp only;have h1:Stp k id e (e.reported r j):=by
   unfold Eng.reported;dsimp only;by_cases c:r.read=true
   ·rw [if_pos c];exact zzt ((zl9 j).trans (zjg j _)) (zl9 j)
   ·rw [if_neg c];exact zzt (zjg j _) (Stp.refl k id e)
  split
  ·exact h1.trans (zcv j)
  ·exact h1
end
theorem zg1 {a b:Co} (p:Path a b):a.log <+:b.log:=by
 induction p with
 | refl=>exact List.prefix_refl _
 | snoc _ m ih=>exact ih.trans (by cases m <;>first | exact List.prefix_append _ _ | exact List.prefix_refl _)
theorem zms {id:Int} {e e':Eng} (p:Go2 [] e e'):nst id e.out≤nst id e'.out:=by
 have h:=zg1 p;have h:e.out <+:e'.out:=h;obtain⟨l,hl⟩:=h;rw [←hl,zeb];exact Nat.le_add_right _ _
def Sk (b:Bool) (e:Eng) (k:Nat):Prop:=∀x,e.seat k=some x→e.tm.getD k never=tmN x.d.next∧(x.d.ready e.clock=true→k∈e.turns.q∨(b=true∧tdue (tmN x.d.next) e.clock=true))
def SA (b:Bool) (e:Eng):Prop:=∀k,Sk b e k
theorem zq1 {t:Turns} {j i:Nat} (h:i∈t.q):i∈(t.wake j).q:=(zzj h).1
theorem znd {t:Turns} (hw:t.who= -1) (j:Nat):j∈(t.wake j).q:=by
 unfold Turns.wake;rw [if_neg (by omega)];exact zgx.2 (.inr rfl)
theorem zgq {b:Bool} {e:Eng} (g:G3 e) (j:Nat) (h:∀k,k≠j→Sk b e k):SA b (e.settle j):=by
 intro k x hx;cases hj:e.seat j with
 | none=>
  have he:e.settle j=e:=by unfold Eng.settle;rw [hj]
  rw [he]at hx ⊢;exact h k (λhh=>by rw [hh,hj]at hx;cases hx) x hx
 | some y=>
  rw [za0]at hx;have hc:(e.settle j).clock=e.clock:=by unfold Eng.settle;rw [hj]
  have htm:(e.settle j).tm=e.tm.set j (tmN y.d.next):=by unfold Eng.settle;rw [hj];rfl
  have hjl:=g.ok.lt hj;have hl4:=g.ok.l4;rw [hc,htm];by_cases c:k=j
  ·subst c;rw [hj]at hx;cases hx;refine⟨zkf _ _ (by omega),λhr=> .inl ?_⟩;unfold Eng.settle;rw [hj];dsimp only;rw [if_pos hr];exact znd g.ti.who k
  ·obtain⟨h1,h2⟩:=h k c x hx;refine⟨(zdw _ _ c).trans h1,λhr=> ?_⟩;rcases h2 hr with h3 | h3
   ·left;unfold Eng.settle;rw [hj];dsimp only;split
    ·exact zq1 h3
    ·exact h3
   ·exact .inr h3
theorem z0x {b:Bool} {e:Eng} (g:G3 e) (j:Nat) (h:∀k,k≠j→Sk b e k):(∀k,k≠j→Sk b (e.step j).2 k)∧((e.step j).1=false→SA b (e.step j).2):=by
 cases hj:e.seat j with
 | none=>
  have he:(e.step j)=(false,e):=by unfold Eng.step;rw [hj]
  rw [he];refine⟨h,λ_ k x hx=> ?_⟩;exact h k (λhh=>by rw [hh]at hx;rw [hj]at hx;cases hx) x hx
 | some y=>
  have h0:=co_al.1 g.al j y hj;cases hst:y.d.step e.clock with
  | none=>
   have he:e.step j=(true,e):=by unfold Eng.step;rw [hj];dsimp only;rw [hst];dsimp only;rw [if_pos h0]
   rw [he];exact⟨h,λhh=>(by cases hh)⟩
  | some z=>
   obtain⟨z,d'⟩:=z;have hs:=zag hj {y with d:=d'};by_cases h1:d'.status=0
   ·have he:e.step j=(true,(e.setSeat j (some {y with d:=d'})).tell (zar y.id z)):=by
     unfold Eng.step;rw [hj];dsimp only;rw [hst];dsimp only;rw [if_pos h1]
    rw [he];refine⟨λk hk x hx=> ?_,λhh=>(by cases hh)⟩;have hx:(e.setSeat j (some {y with d:=d'})).seat k=some x:=hx;rw [hs,if_neg hk]at hx;exact h k hk x hx
   ·have he:e.step j=(false,((e.setSeat j (some {y with d:=d'})).tell (zar y.id z)).gone j y.id):=by
     unfold Eng.step;rw [hj];dsimp only;rw [hst];dsimp only;rw [if_neg h1]
    rw [he];have key:∀k,k≠j→Sk b (((e.setSeat j (some {y with d:=d'})).tell (zar y.id z)).gone j y.id) k:=λk hk x hx=>by
     rw [zbp,if_neg hk]at hx;have hx:(e.setSeat j (some {y with d:=d'})).seat k=some x:=hx;rw [hs,if_neg hk]at hx;obtain⟨h2,h3⟩:=h k hk x hx;refine⟨(zdw _ _ hk).trans h2,λhr=> ?_⟩;rcases h3 hr with h4 | h4
     ·exact .inl (((zmw g.ti.who j).2.2.2.2 k hk).2 h4).1
     ·exact .inr h4
    refine⟨key,λ_ k x hx=> ?_⟩;by_cases c:k=j
    ·rw [zbp,if_pos c]at hx;cases hx
    ·exact key k c x hx
theorem zdk {b:Bool} {e:Eng} {j:Nat} {x y:Seat} (hj:e.seat j=some x) (h:∀k,k≠j→Sk b e k):∀k,k≠j→Sk b (e.setSeat j (some y)) k:=λk hk z hz=>by
 rw [zag hj,if_neg hk]at hz;exact h k hk z hz
theorem zgs {α:Type} {b:Bool} {f:Eng→α→Eng} (hf:∀e a,G3 e→SA b e→G3 (f e a)∧SA b (f e a)):∀(l:List α) (e:Eng),G3 e→SA b e→G3 (l.foldl f e)∧SA b (l.foldl f e)
 | [],_,g,h=>⟨g,h⟩
 | a::l,e,g,h=>zgs hf l (f e a) (hf e a g h).1 (hf e a g h).2
section
variable {b:Bool} {e:Eng}
theorem z04 (g:G3 e) (h:SA b e) (n:Int):SA b (e.open n):=by
 by_cases hr:e.refused n≠0
 ·have he:e.open n={e with slots:=e.slots.skip,out:=e.out++[zbz e.slots.skipped n (e.refused n)]}:=by unfold Eng.open;rw [if_pos hr]
  rw [he];exact λk x hx=>h k x hx
 ·have hr0:=Decidable.not_not.1 hr;have he:e.open n=({e with slots:=e.slots.open,seats:=e.seats.set e.slots.first (some ⟨e.slots.next,Dia.new e.s (e.scripts.getD n.toNat PrM.zero) e.clock,[],false⟩),out:=e.out++[za5 e.slots.next n]}:Eng).settle e.slots.first:=by unfold Eng.open;rw [if_neg hr]
  rw [he];have hg:G3 ({e with slots:=e.slots.open,seats:=e.seats.set e.slots.first (some ⟨e.slots.next,Dia.new e.s (e.scripts.getD n.toNat PrM.zero) e.clock,[],false⟩),out:=e.out++[za5 e.slots.next n]}:Eng):=by
   refine⟨zg2 g.ok hr0,?_,ti_of g.ti rfl rfl⟩
   have:=zbl (zj1 (acc:=[]) g.ok n) g.al
   rw [he]at this;intro i z hz;refine this i z ?_;unfold Eng.settle;split <;>exact hz
  refine zgq hg _ λk hk x hx=> ?_;have hx:(e.seats.set e.slots.first (some ⟨e.slots.next,Dia.new e.s (e.scripts.getD n.toNat PrM.zero) e.clock,[],false⟩)).getD k none=some x:=hx;rw [JA,JS (λhh=>hk hh.symm),←JA]at hx;exact h k x hx
theorem zxs (h:SA b e) (o:OfferM):SA b (e.offer o):=by
 unfold Eng.offer;cases e.slots.slot o.id with
 | none=>exact h
 | some j=>
  dsimp only;cases hj:e.seat j with
  | none=>exact h
  | some y=>
   dsimp only;split
   ·exact h
   ·intro k x hx;rw [zag hj]at hx;split at hx
    ·rename_i c;subst c;cases hx;exact h k y hj
    ·exact h k x hx
theorem zth (g:G3 e) {j:Nat} {y:Seat} (hj:e.seat j=some y) (t:Int):G3 (e.setSeat j (some {y with d:=y.d.cut t})):=by
 obtain⟨d1,d2,d4⟩:=g.ok.dO j y hj;have hc:=zbv y.d t;refine⟨zaq (y:={y with d:=y.d.cut t}) g.ok hj rfl ⟨zly d1 t,hc.1.trans d2,by show(y.d.cut t).now≤_;rw [hc.2.2];exact d4⟩,al_of g.al λi z hz=> ?_,ti_of g.ti rfl rfl⟩;rw [zag hj]at hz;split at hz
 ·cases hz;exact⟨j,y,hj,hc.2.1.symm⟩
 ·exact⟨i,z,hz,rfl⟩
theorem z17 (g:G3 e) (j:Nat):G3 (e.step j).2:=(zl8 (k:=0) (id:=0) j).g g
theorem z05 (g:G3 e) (h:SA b e) (t:Int) (now:Bool) (id':Int):SA b (e.cut1 t now id'):=by
 unfold Eng.cut1;cases e.slots.slot id' with
 | none=>exact h
 | some j=>
  dsimp only;cases hj:e.seat j with
  | none=>exact h
  | some y=>
   dsimp only;have g1:=zth g hj t;have h1:∀k,k≠j→Sk b (e.setSeat j (some {y with d:=y.d.cut t})) k:=zdk hj λk _=>h k;split
   ·exact zgq g1 j h1
   ·obtain⟨s1,s2⟩:=z0x g1 j h1;split
    ·exact zgq (z17 g1 j) j s1
    ·rename_i c;exact s2 (by simpa using c)
theorem z19 (g:G3 e) (t:Int) (now:Bool) (id':Int):G3 (e.cut1 t now id'):=(zq9 (k:=0) (id:=0) t now id').g g
theorem zzy (g:G3 e) (h:SA b e) (t:Int) (now:Bool):SA b (e.cut t now):=by
 unfold Eng.cut;have g':G3 ({e with drains:=true,out:=e.out++[zbb t]}:Eng):=⟨{g.ok with},g.al,ti_of g.ti rfl rfl⟩;refine(zgs (λe a g h=>⟨z19 g t now a,z05 g h t now a⟩) _ _ g' ?_).2;exact λk x hx=>h k x hx
theorem zxt (g:G3 e) (h:SA b e) (r:RoundM):SA b (e.drain r):=by
 unfold Eng.drain;split
 ·exact zzy g h _ _
 ·split
  ·exact zzy g h _ _
  ·exact h
theorem zld {k:Nat} (h:(e.read k).out.length≤e.out.length):e.read k=e:=by
 unfold Eng.read at h ⊢;cases hk:e.seat k with
 | none=>rfl
 | some x=>
  rw [hk]at h;dsimp only at h ⊢;split
  ·rfl
  ·rename_i c0;rw [if_neg c0]at h;by_cases c1:x.reads=[]
   ·rw [if_pos c1,if_pos c1]at h ⊢;split
    ·rename_i c2;rw [if_pos c2]at h
     have:(e.out++[evEof x.id]).length≤e.out.length:=h
     simp at this;omega
    ·rfl
   ·rw [if_neg c1,if_neg c1]at h;exfalso;split at h
    ·have:((e.out++[zd0 x.id ⟨⟨x.reads⟩⟩])++[evEof x.id]).length≤e.out.length:=h
     simp at this;omega
    ·have:(e.out++[zd0 x.id ⟨⟨x.reads⟩⟩]).length≤e.out.length:=h
     simp at this;omega
theorem zi5 (ho:e.Ok) {k:Nat} {n:Int} (h:(e.write k n).out.length≤e.out.length):e.write k n=e:=by
 unfold Eng.write at h ⊢;cases hk:e.seat k with
 | none=>rfl
 | some x=>
  rw [hk]at h;dsimp only at h ⊢;split
  ·rename_i c;rw [zno (ho.dO k x hk).1 c];exact zb2 hk
  ·rename_i c;rw [if_neg c]at h
   have:(e.out++[zdf x.id (x.d.taken n)]).length≤e.out.length:=h
   simp at this;omega
theorem zt5 {k:Nat} (h:∀i,i≠k→Sk b e i):∀i,i≠k→Sk b (e.read k) i:=by
 cases hk:e.seat k with
 | none=>unfold Eng.read;rw [hk];exact h
 | some x=>
  by_cases c0:x.d.room=0
  ·unfold Eng.read;rw [hk];dsimp only;rw [if_pos c0];exact h
  ·rw [zey hk c0];have h1:(∀i,i≠k→Sk b (e.read1 k x) i)∧(e.read1 k x).seat k=some x.got:=by
    unfold Eng.read1 Seat.got;split
    ·exact⟨h,hk⟩
    ·exact⟨zdk hk h,(zag hk x.read1 k).trans (if_pos rfl)⟩
   split
   ·exact zdk h1.2 h1.1
   ·exact h1.1
theorem zre {k:Nat} {n:Int} (h:∀i,i≠k→Sk b e i):∀i,i≠k→Sk b (e.write k n) i:=by
 unfold Eng.write;cases hk:e.seat k with
 | none=>exact h
 | some x=>
  dsimp only;split
  ·exact zdk hk h
  ·exact zdk hk h
theorem zv2 (g:G3 e) (j:Nat):G3 (e.read j):=(zl9 (k:=0) (id:=0) j).g g
theorem zsa (g:G3 e) (j:Nat) (n:Int):G3 (e.write j n):=(zjg (k:=0) (id:=0) j n).g g
theorem zkw (g:G3 e) {k:Nat} {r:ReportM} (h:(e.reported r k).out.length≤e.out.length):e.reported r k=e:=by
 have m1:=zon e k;unfold Eng.reported at h ⊢;dsimp only at h ⊢;by_cases c:r.read=true
 ·rw [if_pos c]at h ⊢;by_cases c2:r.write=true
  ·rw [if_pos c2]at h ⊢;have m2:=zlm (e.read k) k r.accept;have e1:=zld (e:=e) (k:=k) (by omega);rw [e1]at h ⊢;exact zi5 g.ok h
  ·rw [if_neg c2]at h ⊢;exact zld h
 ·rw [if_neg c]at h ⊢;by_cases c2:r.write=true
  ·rw [if_pos c2]at h ⊢;exact zi5 g.ok h
  ·rw [if_neg c2]
theorem zqj (g:G3 e) (r:ReportM) (k:Nat):G3 (e.reported r k):=by
 unfold Eng.reported;dsimp only;split
 ·split
  ·exact zsa (zv2 g k) k _
  ·exact zsa g k _
 ·split
  ·exact zv2 g k
  ·exact g
theorem zub (g:G3 e) (h:SA b e) (r:ReportM):SA b (e.report r):=by
 unfold Eng.report;cases e.slots.slot r.id with
 | none=>exact h
 | some k=>
  dsimp only;split
  ·refine zgq (zqj g r k) k ?_;unfold Eng.reported;dsimp only;have h0:∀i,i≠k→Sk b e i:=λi _=>h i;split
   ·split
    ·exact zre (zt5 h0)
    ·exact zre h0
   ·split
    ·exact zt5 h0
    ·exact h0
  ·rename_i c;rw [zkw g (by omega)];exact h
end
theorem zqg {tm:List Int} {k:Nat} (h:k<tm.length):tm.getD k 0=tm.getD k never:=by
 simp only [JA,JC h];rfl
theorem zxe {tm:List Int} {t:Int} {j:Nat} (hv:∀t∈tm,t≤never) (h:tmMin tm 0=some (t,j)) {k:Nat} (hk:k<tm.length) (hn:tm.getD k never≠never):t≤tm.getD k never:=by
 have:=zcu tm 0 hv
 rw [h]at this;obtain⟨_,_,_,_,h5⟩:=this;have h6:=h5 k hk (by rw [zqg hk];exact hn);rw [zqg hk]at h6;unfold lexle at h6;simp only at h6;omega
theorem zsq {tm:List Int} (hv:∀t∈tm,t≤never) (h:tmMin tm 0=none) {k:Nat} (hk:k<tm.length):tm.getD k never=never:=by
 have:=zcu tm 0 hv
 rw [h]at this;rw [←zqg hk];exact this k hk
def cntT (tm:List Int):Nat:=tm.countP λt=>decide (t≠never)
theorem zni:∀(f:Nat) (tm:List Int) (now:Int),(∀t∈tm,t≤never)→cntT tm≤f→∀k,k<tm.length→
  (tdue (tm.getD k never) now=true→k∈(tmDue f tm now).1.map Prod.snd)∧(k∈(tmDue f tm now).1.map Prod.snd∨(tmDue f tm now).2.getD k never=tm.getD k never)
 | 0,tm,now,hv,hc,k,hk=>by
  refine⟨λhd=> ?_,.inr rfl⟩;exfalso;have h0:∀t∈tm,¬decide (t≠never)=true:=List.countP_eq_zero.1 (by unfold cntT at hc;omega);have h1:tm.getD k never∈tm:=by
   rw [JA,JC hk];exact Jq hk
  have h2:=h0 _ h1;unfold tdue at hd;simp only [JT,QJ,ne_eq,JD]at hd h2;exact h2 hd.1
 | f+1,tm,now,hv,hc,k,hk=>by
  rw [tmDue];cases hm:tmMin tm 0 with
  | none=>
   dsimp only;refine⟨λhd=> ?_,.inr rfl⟩;rw [zsq hv hm hk]at hd;simp [tdue]at hd
  | some y=>
   obtain⟨t,j⟩:=y;dsimp only;obtain⟨m1,m2,m3⟩:=znf hv hm;by_cases hd0:tdue t now=true
   ·rw [if_pos hd0];have hc':cntT (tm.set j never)≤f:=by
     unfold cntT at hc ⊢;rw [List.countP_set m2];have hj:tm[j]=t:=by rw [JA,JC m2]at m3;exact m3
     rw [hj,if_pos (by simpa using m1),if_neg (by simp)];omega
    have ih:=zni f (tm.set j never) now (zrg hv (Int.le_refl _)) hc' k (by rw [JK];exact hk);by_cases c:k=j
    ·subst c;exact⟨λ_=>by simp,.inl (by simp)⟩
    ·rw [zdw _ _ c]at ih;refine⟨λhd=> ?_,?_⟩
     ·rw [Jf];exact Jo _ (ih.1 hd)
     ·rcases ih.2 with h | h
      ·left;rw [Jf];exact Jo _ h
      ·exact .inr h
   ·rw [if_neg hd0];refine⟨λhd=> ?_,.inr rfl⟩;exfalso;apply hd0;unfold tdue at hd ⊢;simp only [JT,QJ,ne_eq,JD]at hd ⊢;have hle:=zxe hv hm hk hd.1;exact⟨m1,Int.le_trans (zmp hle) hd.2⟩
section
variable {e:Eng}
theorem zv0 (g:G3 e) (j:Nat):G3 (e.settle j):=(zcv (k:=0) (id:=0) j).g g
theorem zex (e:Eng) (j:Nat):(e.settle j).clock=e.clock:=by unfold Eng.settle;cases e.seat j <;>rfl
theorem zk7:∀(l:List (Int×Nat)) (e:Eng),G3 e→(∀k,Sk false e k∨k∈l.map Prod.snd)→G3 (l.foldl (λe t=>e.settle t.2) e)∧SA false (l.foldl (λe t=>e.settle t.2) e)
 | [],e,g,h=>⟨g,λk=>by rcases h k with h | h;exact h;cases h⟩
 | a::l,e,g,h=>by
  refine zk7 l (e.settle a.2) (zv0 g a.2) λk=> ?_;by_cases c:k=a.2
  ·subst c;left;intro x hx;have hx:=(za0 e a.2 a.2).symm.trans hx;have hjl:=g.ok.lt hx;have hl4:=g.ok.l4;have hc:=zex e a.2;refine⟨?_,λhr=> .inl ?_⟩
   ·unfold Eng.settle;rw [hx];exact zkf _ _ (by omega)
   ·rw [hc]at hr;unfold Eng.settle;rw [hx];dsimp only;rw [if_pos hr];exact znd g.ti.who _
  ·rcases h k with h1 | h1
   ·left;intro x hx;have hx:=(za0 e a.2 k).symm.trans hx;obtain⟨h2,h3⟩:=h1 x hx;rw [zex];unfold Eng.settle;cases hj:e.seat a.2 with
    | none=>exact⟨h2,h3⟩
    | some y=>
     dsimp only;refine⟨(zdw _ _ c).trans h2,λhr=> ?_⟩;rcases h3 hr with h4 | h4
     ·left;split
      ·exact zq1 h4
      ·exact h4
     ·exact .inr h4
   ·right;rw [Jf]at h1;rcases Jp.1 h1 with h1 | h1
    ·exact absurd h1 c
    ·exact h1
theorem zsw (g:G3 e) (h:SA true e):G3 e.wakeAll∧SA false e.wakeAll:=by
 obtain⟨i1,i2,i3,i4⟩:=zcz e.tm.length e.tm e.clock g.ok.tv;have hall:=zni e.tm.length e.tm e.clock g.ok.tv List.countP_le_length;unfold Eng.wakeAll;refine zk7 _ {e with tm:=(tmDue e.tm.length e.tm e.clock).2} ⟨{g.ok with l4:=i1.trans g.ok.l4,tm:=λk hk=>g.ok.tm k (i3 k hk),tv:=i2},g.al,ti_of g.ti rfl rfl⟩ λk=> ?_;by_cases c:k∈(tmDue e.tm.length e.tm e.clock).1.map Prod.snd
 ·exact .inr c
 ·left;intro x hx;have hx:e.seat k=some x:=hx;have hkl:k<e.tm.length:=by rw [g.ok.l4];exact g.ok.lt hx
  obtain⟨h1,h2⟩:=hall k hkl;obtain⟨h3,h4⟩:=h k x hx;rcases h2 with h2 | h2
  ·exact absurd h2 c
  ·refine⟨h2.trans h3,λhr=> ?_⟩;rcases h4 hr with h5 | ⟨_,h5⟩
   ·exact .inl h5
   ·exact absurd (h1 (by rw [h3];exact h5)) c
theorem zqi (g:G3 e):G3 e.turn.2:=by
 refine⟨zl4 g.ok,zbl (zj0 (acc:=[]) g.ok g.al) g.al,?_⟩;cases hq:e.turns.q with
 | nil=>rw [zl5 hq];exact g.ti
 | cons j r=>exact(zeq g.ok g.al g.ti hq).ti
theorem zua (g:G3 e) (h:SA false e):SA false e.turn.2:=by
 cases hq:e.turns.q with
 | nil=>rw [zl5 hq];exact h
 | cons j r=>
  have T:=zeq g.ok g.al g.ti hq;intro k x hx;by_cases c:k=j
  ·subst c;obtain⟨h1,h2⟩:=T.sk x hx;exact⟨h1,λhr=> .inl (h2 hr)⟩
  ·rw [T.seat k c]at hx;obtain⟨h1,h2⟩:=h k x hx;refine⟨(T.tm k c).trans h1,λhr=> ?_⟩;rw [T.clock]at hr;rcases h2 hr with h3 | ⟨h3,_⟩
   ·left;rw [hq]at h3;have h3:k∈r:=by rcases Jp.1 h3 with h3 | h3;exact absurd h3 c;exact h3
    rcases T.q with h4 | h4
    ·rw [h4];exact h3
    ·rw [h4];exact QK _ h3
   ·cases h3
def need (su:Setup) (h:Int):Nat:=(max 1 ((most su-h+su.quantum-1) / su.quantum)).toNat
def Eng.potOf (e:Eng) (k:Nat):Nat:=(need e.s (e.hasOf k)-1)*e.s.live.toNat+e.turns.q.idxOf k+1
theorem zr2 (su:Setup) (h:Int):1≤need su h:=by unfold need;omega
theorem z1q {su:Setup} (hg:good su=true) {h:Int} (h0:0≤h):(need su h:Int)≤zcn su:=by
 have hf:=zal hg;unfold need zcn;rw [if_neg (by rw [hg];decide)];have hm:1≤most su:=by unfold most;omega
 have h1:(most su-h+su.quantum-1) / su.quantum≤(most su+su.quantum-1) / su.quantum:=Int.ediv_le_ediv (by omega) (by omega);have h2:1≤(most su+su.quantum-1) / su.quantum:=by
  rw [Int.le_ediv_iff_mul_le (by omega)];omega
 omega
theorem zve {su:Setup} (hg:good su=true) {h:Int} (hl:h+su.quantum<most su):need su (h+su.quantum)+1=need su h:=by
 have hf:=zal hg;unfold need;have e1:most su-h+su.quantum-1=(most su-(h+su.quantum)+su.quantum-1)+su.quantum*1:=by omega
 have e2:(most su-h+su.quantum-1) / su.quantum=(most su-(h+su.quantum)+su.quantum-1) / su.quantum+1:=by
  rw [e1,Int.add_mul_ediv_left _ _ (by omega)]
 have h2:1≤(most su-(h+su.quantum)+su.quantum-1) / su.quantum:=by
  rw [Int.le_ediv_iff_mul_le (by omega)];omega
 rw [e2];omega
theorem q_len (ho:e.Ok):e.turns.q.length≤e.s.live.toNat:=ze2 ho.tn λi hi=>by
 obtain⟨x,hx⟩:=ho.tq i hi;exact ho.lt hx
theorem z3a (ho:e.Ok) {k:Nat} (hq:k∈e.turns.q) (hn:0≤e.hasOf k):(e.potOf k:Int)≤za8 e.s:=by
 have h1:=z1q ho.sg hn;have h2:=zr2 e.s (e.hasOf k);have h3:=Jr.2 hq;have h4:=q_len ho;have hf:=zal ho.sg;unfold Eng.potOf za8;rw [if_neg (by rw [ho.sg];decide)];have h5:((need e.s (e.hasOf k)-1)*e.s.live.toNat+e.turns.q.idxOf k+1:Nat)≤need e.s (e.hasOf k)*e.s.live.toNat:=by
  obtain⟨n,hn⟩:∃n,need e.s (e.hasOf k)=n+1:=⟨need e.s (e.hasOf k)-1,by omega⟩;rw [hn,Nat.add_sub_cancel,Nat.add_mul,Nat.one_mul];omega
 have h6:((need e.s (e.hasOf k)*e.s.live.toNat:Nat):Int)≤e.s.live*zcn e.s:=by
  rw [Qn,Int.mul_comm]
  have:((e.s.live.toNat:Nat):Int)=e.s.live:=by omega
  rw [this];exact Int.mul_le_mul_of_nonneg_left h1 (by omega)
 omega
theorem ztw (g:G3 e) {k:Nat} {x:Seat} (hk:e.seat k=some x) (hr:x.d.ready e.clock=true) (hq:k∈e.turns.q):
  e.turn.1=true∧(nst x.id e.out<nst x.id e.turn.2.out∨(nst x.id e.out=nst x.id e.turn.2.out∧e.turn.2.seat k=some x∧k∈e.turn.2.turns.q∧e.turn.2.potOf k+1≤e.potOf k)):=by
 cases hqq:e.turns.q with
 | nil=>rw [hqq]at hq;cases hq
 | cons j r=>
  have T:=zeq g.ok g.al g.ti hqq;refine⟨T.on,?_⟩;have hnd:=g.ok.tn;rw [hqq]at hnd;have hjr:=(List.nodup_cons.1 hnd).1;have hrl:r.length+1≤e.s.live.toNat:=by have:=q_len g.ok;rw [hqq]at this;exact this
  by_cases c:k=j
  ·subst c;rcases T.own x hk hr with h | ⟨h1,h2,h3,h4,h5⟩
   ·exact .inl h
   ·right;refine⟨by rw [h1],h2,by rw [h3];simp,?_⟩;unfold Eng.potOf;rw [T.s,h3,h4];have hl:=zve g.ok.sg (h:=e.hasOf k) (by omega);rw [hqq];have i1:(k::r).idxOf k=0:=by simp
    have i2:(r++[k]).idxOf k=r.length:=by rw [List.idxOf_append,if_neg hjr];simp
    rw [i1,i2];have hp:=zr2 e.s (e.hasOf k+e.s.quantum);obtain⟨n,hn⟩:∃n,need e.s (e.hasOf k+e.s.quantum)=n+1:=⟨need e.s (e.hasOf k+e.s.quantum)-1,by omega⟩;rw [←hl,hn];simp only [Nat.add_sub_cancel];rw [Nat.add_mul,Nat.one_mul];omega
  ·have hkr:k∈r:=by rw [hqq]at hq;rcases Jp.1 hq with h | h;exact absurd h c;exact h
   have hm:nst x.id e.out≤nst x.id e.turn.2.out:=by
    have:=zj0 (acc:=[]) g.ok g.al
    exact zms this
   rcases Ju (nst x.id e.out) (nst x.id e.turn.2.out)with h | h
   ·exact .inl h
   ·right;refine⟨by omega,by rw [T.seat k c];exact hk,?_,?_⟩
    ·rcases T.q with h | h
     ·rw [h];exact hkr
     ·rw [h];exact QK _ hkr
    ·unfold Eng.potOf;rw [T.s,T.has k c,hqq,zr8 (λhh=>c hh.symm)];rcases T.q with h | h
     ·rw [h];omega
     ·rw [h,zvv hkr];omega
end
structure Sch (e:Eng):Prop where
 g:G3 e
 a:SA false e
theorem zsc (d:Due):d.first≤own d.til∧d.first≤own d.lim∧d.first≤own d.cut∧d.first≤never∧0≤d.first:=by
 have:=nev
 have e1:d.first=min (min (min never (own d.til)) (own d.lim)) (own d.cut):=rfl
 rw [e1];unfold own;omega
theorem znn {d:Dia} (h0:d.runs=true) {c:Int} {t:Int} (ht:d.due.first≤t) (hn:t≠never) (hc:t≤own c) (hnv:t≤never):tdue (tmN d.next) c=true:=by
 have hf:=zsc d.due;have e1:d.next=d.due.first:=by unfold Dia.next;rw [if_pos h0]
 unfold tmN tdue;rw [e1,if_neg (by omega)];simp only [JT,QJ,ne_eq,JD]
 have:own (own d.due.first)=d.due.first:=by unfold own;omega
 have h2:own d.due.first=d.due.first:=by unfold own;omega
 rw [this,h2];omega
theorem zs2 {d:Dia} (ho:d.Ok) {c c':Int} (hnow:d.now≤c) (hcc:c≤c') (h:d.ready c=false) (h':d.ready c'=true):tdue (tmN d.next) c'=true:=by
 have h0:d.runs=true:=by unfold Dia.ready at h';rw [JT]at h';exact h'.1
 unfold Dia.ready at h h';rw [h0,Bool.true_and]at h h';rw [Int.max_eq_left hnow]at h;rw [Int.max_eq_left (by omega)]at h';have hf:=zsc d.due;have hl:=zlk ho.dl;have hcut:=zlk ho.dc;have htl:=zlk ho.dt;have wk:d.due.woken c'=true→tdue (tmN d.next) c'=true:=λhw=>by
  unfold Due.woken tdue at hw;simp only [JT,QJ,ne_eq,JD]at hw
  have:own d.due.til≠never:=by
   have:=nev;have:=ho.dt
   intro hh;apply hw.1;unfold own at hh;omega
  exact znn h0 hf.1 this hw.2 htl
 unfold Dia.readyAt at h h';by_cases c1:(d.due.over c').2=true
 ·rw [ziv]at c1;exact znn h0 (t:=min (own d.due.lim) (own d.due.cut)) (by omega) c1.1 c1.2 (by omega)
 ·rw [if_neg c1]at h';have c2:¬(d.due.over c).2=true:=λhh=>c1 (zoj hcc hh);rw [if_neg c2]at h;split at h'
  ·rename_i k;rw [if_pos k]at h;rw [h']at h;cases h
  ·rename_i k;rw [if_neg k]at h;split at h'
   ·rename_i k2;rw [if_pos k2]at h;simp only [Bool.or_eq_true,Bool.or_eq_false_iff]at h h';rcases h' with h' | h' | h' | h'
    ·rw [h.1]at h';cases h'
    ·rw [h.2.1]at h';cases h'
    ·rw [h.2.2.1]at h';cases h'
    ·exact wk h'
   ·rename_i k2;rw [if_neg k2]at h;split at h'
    ·exact wk h'
    ·rename_i k3;rw [if_neg k3]at h;cases h
section
variable {e:Eng}
theorem zf6 (ho:e.Ok) (r:RoundM):e.clock≤(e.start r).clock:=by
 have:=ho.c0;have:=ho.c1
 show e.clock≤min (tadd e.clock r.ticks) (never-1);unfold tadd own;split <;>omega
theorem zm3 (g:G3 e) (r:RoundM):G3 (e.start r):=⟨zfe g.ok r,g.al,ti_of g.ti rfl rfl⟩
theorem zxr (h:Sch e) (r:RoundM):SA true (e.start r):=by
 intro k x hx;have hx:e.seat k=some x:=hx;obtain⟨h1,h2⟩:=h.a k x hx;refine⟨h1,λhr=> ?_⟩;obtain⟨d1,_,d4⟩:=h.g.ok.dO k x hx;cases hc:x.d.ready e.clock with
 | true=>
  rcases h2 hc with h3 | ⟨h3,_⟩
  ·exact .inl h3
  ·cases h3
 | false=>exact .inr ⟨rfl,zs2 d1 d4 (zf6 h.g.ok r) hc hr⟩
theorem z18 (g:G3 e) (n:Int):G3 (e.open n):=(zma (k:=0) (id:=0) n).g g
theorem zym (g:G3 e) (o:OfferM):G3 (e.offer o):=(zjh (k:=0) (id:=0) o).g g
theorem zyn (g:G3 e) (r:RoundM):G3 (e.drain r):=(zji (k:=0) (id:=0) r).g g
theorem zv1 (g:G3 e) (r:ReportM):G3 (e.report r):=(zhn (k:=0) (id:=0) r).g g
theorem z03 {b:Bool} {r:RoundM} (g:G3 (e.start r)) (h:SA b (e.start r)):G3 (e.told r)∧SA b (e.told r):=by
 obtain⟨g1,h1⟩:=zgs (f:=Eng.open) (λe a g h=>⟨z18 g a,z04 g h a⟩) r.opens _ g h;obtain⟨g2,h2⟩:=zgs (f:=Eng.offer) (λe a g h=>⟨zym g a,zxs h a⟩) r.offers _ g1 h1;have g3:=zyn g2 r;have h3:=zxt g2 h2 r;exact zgs (f:=Eng.report) (λe a g h=>⟨zv1 g a,zub g h a⟩) r.reports _ g3 h3
theorem zf7 (h:Sch e) (r:RoundM):Sch (e.told r).wakeAll:=by
 obtain⟨g,a⟩:=z03 (zm3 h.g r) (zxr h r);obtain⟨g',a'⟩:=zsw g a;exact⟨g',a'⟩
theorem znz:∀(v:Nat) (e:Eng),Sch e→Sch (Eng.visit v e)
 | 0,_,h=>h
 | v+1,e,h=>by
  rw [Eng.visit];split
  ·exact znz v _ ⟨zqi h.g,zua h.g h.a⟩
  ·exact h
theorem zxq (h:Sch e):Sch e.halt:=by
 unfold Eng.halt;split
 ·exact⟨⟨{h.g.ok with},h.g.al,ti_of h.g.ti rfl rfl⟩,λk x hx=>h.a k x hx⟩
 ·exact h
theorem zjo (h:Sch e) (r:RoundM):Sch (e.round r):=zxq (znz _ _ (zf7 h r))
theorem z00 {su:Setup} {ps:List PrM} (hs:good su=true) (hf:∀p∈ps,p.Fit) (hl:ps.length≤64):Sch (Eng.new su ps):=by
 have hg:=zal hs;have no:∀k,(Eng.new su ps).seat k=none:=by
  intro k;unfold Eng.new Eng.seat;simp only;rw [JA,QD];split <;>rfl
 refine⟨⟨zfn hs hf hl,z3h su ps,rfl,?_,λk=> ?_,?_⟩,λk x hx=> ?_⟩
 ·show(List.replicate (min (max su.live 1) 1024).toNat (0:Int)).length=su.live.toNat;rw [QG];omega
 ·show 0≤(List.replicate (min (max su.live 1) 1024).toNat (0:Int)).getD k 0;rw [JA,QD];split <;>exact Int.le_refl _
 ·show min (max su.quantum 1) 1000000=su.quantum;omega
 ·rw [no]at hx;cases hx
structure Wt1 (k:Nat) (id:Int) (n:Int) (e:Eng):Prop where
 h:∃x,e.seat k=some x∧x.id=id∧x.d.ready e.clock=true
 q:k∈e.turns.q
 p:(e.potOf k:Int)≤n
theorem zk1 (g:G3 e):e.turn.2.clock=e.clock∧e.turn.2.s=e.s:=by
 cases hq:e.turns.q with
 | nil=>rw [zl5 hq];exact⟨rfl,rfl⟩
 | cons j r=>exact⟨(zeq g.ok g.al g.ti hq).clock,(zeq g.ok g.al g.ti hq).s⟩
theorem zja:∀(v:Nat) (e:Eng),G3 e→(Eng.visit v e).clock=e.clock∧(Eng.visit v e).s=e.s
 | 0,_,_=>⟨rfl,rfl⟩
 | v+1,e,g=>by
  rw [Eng.visit];split
  ·obtain⟨h1,h2⟩:=zja v _ (zqi g);obtain⟨h3,h4⟩:=zk1 g;exact⟨h1.trans h3,h2.trans h4⟩
  ·exact⟨rfl,rfl⟩
theorem zh0 {k:Nat} {id:Int}:∀(v:Nat) (e:Eng) (n:Int),Sch e→Wt1 k id n e→nst id e.out<nst id (Eng.visit v e).out∨(nst id e.out=nst id (Eng.visit v e).out∧Wt1 k id (n-min v 1) (Eng.visit v e))
 | 0,e,n,_,w=>by
  refine .inr ⟨rfl,⟨w.h,w.q,?_⟩⟩;have h2:n-((min 0 1:Nat):Int)=n:=by simp
  rw [h2];exact w.p
 | v+1,e,n,h,w=>by
  obtain⟨x,hk,hid,hr⟩:=w.h;obtain⟨t1,t2⟩:=ztw h.g hk hr w.q;rw [Eng.visit,if_pos t1];have h':Sch e.turn.2:=⟨zqi h.g,zua h.g h.a⟩;have hm:nst id e.turn.2.out≤nst id (Eng.visit v e.turn.2).out:=zms (zfh (acc:=[]) v _ h'.g.ok h'.g.al);rw [hid]at t2;rcases t2 with t2 | ⟨t2,t3,t4,t5⟩
  ·exact .inl (by omega)
  ·have hc:=zk1 h.g;have wp:=w.p;have w':Wt1 k id (n-1) e.turn.2:=⟨⟨x,t3,hid,by rw [hc.1];exact hr⟩,t4,by omega⟩;rcases zh0 v e.turn.2 (n-1) h' w' with h1 | ⟨h1,h2⟩
   ·exact .inl (by omega)
   ·refine .inr ⟨by omega,⟨h2.h,h2.q,?_⟩⟩
    have:=h2.p
    omega
theorem zvy {k:Nat} {id n:Int} (w:Wt1 k id n e):Wt1 k id n e.halt:=by
 unfold Eng.halt;split
 ·exact⟨w.h,w.q,w.p⟩
 ·exact w
theorem zm2 (id:Int) (e:Eng):nst id e.halt.out=nst id e.out:=by
 unfold Eng.halt;split
 ·exact zce (v:=zf4) (by show(9:Int)≠8;decide)
 ·rfl
theorem pre_s (g:G3 e) (r:RoundM):(e.told r).wakeAll.s=e.s∧(e.told r).wakeAll.clock=(e.start r).clock:=by
 have h1:Stp 0 0 (e.start r) (e.told r):=by
  unfold Eng.told;exact(((zb5 (λe a=>zma a) _ _).trans (zb5 (λe a=>zjh a) _ _)).trans (zji r)).trans (zb5 (λe a=>zhn a) _ _)
 have g0:=zm3 g r;have g1:=h1.g g0;have h2:∀(l:List (Int×Nat)) (e:Eng),(l.foldl (λe t=>e.settle t.2) e).s=e.s∧(l.foldl (λe t=>e.settle t.2) e).clock=e.clock:=by
  intro l
  induction l with
  | nil=>exact λ_=>⟨rfl,rfl⟩
  | cons a l ih=>exact λe=>⟨(ih _).1.trans (zhq e a.2).1,(ih _).2.trans (zex e a.2)⟩
 unfold Eng.wakeAll;exact⟨(h2 _ _).1.trans (h1.s g0),(h2 _ _).2.trans (h1.c g0)⟩
theorem zk0 (ho:e.Ok):1≤e.s.visits.toNat:=by have:=zal ho.sg;omega
theorem zw7 (h:Sch e) (r:RoundM) {k:Nat} {x:Seat} (hk:(e.told r).wakeAll.seat k=some x) (hr:x.d.ready (e.start r).clock=true):
  nst x.id (e.told r).wakeAll.out<nst x.id (e.round r).out∨(nst x.id (e.told r).wakeAll.out=nst x.id (e.round r).out∧Wt1 k x.id (za8 e.s-1) (e.round r)):=by
 have h5:=zf7 h r;obtain⟨p1,p2⟩:=pre_s h.g r;have hv:=zk0 h.g.ok;have hr5:x.d.ready (e.told r).wakeAll.clock=true:=by rw [p2];exact hr
 have hq:k∈(e.told r).wakeAll.turns.q:=by
  rcases(h5.a k x hk).2 hr5 with h1 | ⟨h1,_⟩
  ·exact h1
  ·cases h1
 have hp:=z3a h5.g.ok hq (h5.g.ti.nn k);rw [p1]at hp;have w:Wt1 k x.id (za8 e.s) (e.told r).wakeAll:=⟨⟨x,hk,rfl,hr5⟩,hq,hp⟩;have he:e.round r=(Eng.visit e.s.visits.toNat (e.told r).wakeAll).halt:=rfl;rw [he,zm2];rcases zh0 e.s.visits.toNat _ _ h5 w with h1 | ⟨h1,h2⟩
 ·exact .inl h1
 ·refine .inr ⟨h1,zvy ?_⟩;have e1:min e.s.visits.toNat 1=1:=by omega
  rw [e1]at h2;exact h2
theorem zpt {k:Nat} {id:Int} (l:List (Int×Nat)) (e:Eng):Stp k id e (l.foldl (λe t=>e.settle t.2) e):=zb5 (λe a=>zcv a.2) l e
theorem zps {k:Nat} {id:Int}:Stp k id e e.wakeAll:=by
 unfold Eng.wakeAll;refine Stp.trans (b:={e with tm:=(tmDue e.tm.length e.tm e.clock).2}) ?_ (zpt _ _);refine⟨λg=> ?_,λ_=>JG _,λ_=>rfl,λ_=>rfl,λ_ ⟨x,hx,hid⟩=> .inr ⟨rfl,⟨x,x,hx,hx,hid,hid,λh=>h⟩,rfl,λh=>⟨h,JG _⟩⟩⟩;obtain⟨i1,i2,i3,i4⟩:=zcz e.tm.length e.tm e.clock g.ok.tv;exact⟨{g.ok with l4:=i1.trans g.ok.l4,tm:=λk hk=>g.ok.tm k (i3 k hk),tv:=i2},g.al,ti_of g.ti rfl rfl⟩
theorem zw6 (h:Sch e) (r:RoundM) {k:Nat} {id n:Int} (w:Wt1 k id n e):0<nst id (e.round r).out∨Wt1 k id (n-1) (e.round r):=by
 obtain⟨x,hk,hid,hr⟩:=w.h;have h5:=zf7 h r;have g0:=zm3 h.g r;have hst:Stp k id (e.start r) (e.told r).wakeAll:=by
  refine Stp.trans (b:=e.told r) ?_ zps;unfold Eng.told;exact(((zb5 (λe a=>zma a) _ _).trans (zb5 (λe a=>zjh a) _ _)).trans (zji r)).trans (zb5 (λe a=>zhn a) _ _)
 have he:e.round r=(Eng.visit e.s.visits.toNat (e.told r).wakeAll).halt:=rfl;have hm:nst id (e.told r).wakeAll.out≤nst id (e.round r).out:=by
  rw [he,zm2];exact zms (zfh (acc:=[]) _ _ h5.g.ok h5.g.al)
 have hk0:(e.start r).seat k=some x:=hk;rcases hst.kp g0 ⟨x,hk0,hid⟩with h1 | ⟨h1,h2⟩
 ·exact .inl (by omega)
 ·obtain⟨y,z,hy,hz,_,hzid,hrr⟩:=h2.h;rw [hk0]at hy;cases hy;have hr0:x.d.ready (e.start r).clock=true:=zlc (Dia.More.refl _) (zf6 h.g.ok r) hr;have hr5:=hrr hr0;obtain⟨p1,p2⟩:=pre_s h.g r;obtain⟨q1,q2⟩:=h2.q w.q;have hpot:((e.told r).wakeAll.potOf k:Int)≤n:=by
   have wp:=w.p
   have:(e.told r).wakeAll.potOf k≤e.potOf k:=by
    unfold Eng.potOf;rw [p1,h2.has];have q2:(e.told r).wakeAll.turns.q.idxOf k≤e.turns.q.idxOf k:=q2;have hh:(e.start r).hasOf k=e.hasOf k:=rfl;rw [hh];omega
   omega
  have hv:=zk0 h.g.ok;have w5:Wt1 k id n (e.told r).wakeAll:=⟨⟨z,hz,hzid,hr5⟩,q1,hpot⟩;rcases zh0 e.s.visits.toNat _ _ h5 w5 with h3 | ⟨h3,h4⟩
  ·left;rw [he,zm2];omega
  ·right;rw [he];refine zvy ?_;have e1:min e.s.visits.toNat 1=1:=by omega
   rw [e1]at h4;exact h4
end
def once1 (id:Int) (s:Bool×Bool) (x:EvM):Bool×Bool:=if x.kind=8∧x.id=id then(s.1&& !s.2,x.step.status != 0)else s
def onceS (id:Int) (l:List EvM):Bool×Bool:=l.foldl (once1 id) (true,false)
theorem zhz (id:Int) (l:List EvM) (x:EvM):onceS id (l++[x])=once1 id (onceS id l) x:=by unfold onceS;rw [Qa];rfl
def hasK (k:Int) (l:List EvM):Prop:=∃x∈l,x.kind=k
theorem zc8 {k:Int} {l:List EvM} {x:EvM}:hasK k (l++[x])↔hasK k l∨x.kind=k:=by
 unfold hasK;constructor
 ·rintro⟨y,hy,hk⟩;rcases JX.1 hy with hy | hy
  ·exact .inl ⟨y,hy,hk⟩
  ·rw [Jg.1 hy]at hk;exact .inr hk
 ·rintro(⟨y,hy,hk⟩ | hk)
  ·exact⟨y,QK _ hy,hk⟩
  ·exact⟨x,by simp,hk⟩
inductive Behind (k:Int) (P:EvM→Prop):List EvM→Prop
 | nil:Behind k P []
 | snoc {l:List EvM} {x:EvM} (h:Behind k P l) (hx:hasK k l→P x):Behind k P (l++[x])
theorem zd1 (f:LifeM) (x:EvM):(f.add x).status=if x.kind=8∧x.id=f.id then x.step.status else f.status:=by
 unfold LifeM.add LifeM.push;by_cases c:x.kind=7∧f.status=0
 ·rw [if_pos c,if_neg (by omega)]
 ·rw [if_neg c];by_cases h:x.id=f.id
  ·rw [if_neg (by simp [h])];by_cases h4:x.kind=4
   ·rw [if_pos h4,if_neg (by omega)]
   ·rw [if_neg h4];by_cases h5:x.kind=5
    ·rw [if_pos h5,if_neg (by omega)]
    ·rw [if_neg h5];by_cases h6:x.kind=6
     ·rw [if_pos h6,if_neg (by omega)]
     ·rw [if_neg h6];by_cases h8:x.kind=8
      ·rw [if_pos h8,if_pos ⟨h8,h⟩]
      ·rw [if_neg h8,if_neg (λhh=>h8 hh.1)]
  ·rw [if_pos h,if_neg (λhh=>h hh.2)]
theorem zhi (f:LifeM) (x:EvM):(f.add x).steps=if x.kind=8∧x.id=f.id then f.steps++[x.step]else f.steps:=by
 by_cases h8:x.kind=8
 ·by_cases h:x.id=f.id
  ·rw [if_pos ⟨h8,h⟩];exact(zek h h8).1
  ·rw [if_neg (λhh=>h hh.2)];exact(zd2 h).1
 ·rw [if_neg (λhh=>h8 hh.1)];by_cases h4:x.kind=4
  ·by_cases h:x.id=f.id
   ·exact(zhj h h4).1
   ·exact(zd2 h).1
  ·exact(zcb h4 h8).1
structure LI (M:Int) (c:Co):Prop where
 sd:∀(k:Nat) (x:Seat),c.seats[k]? =some (some x)→∃f,zam c.log x.id=some f∧f.status=0
 nd:∀(i j:Nat) (x y:Seat),c.seats[i]? =some (some x)→c.seats[j]? =some (some y)→x.id=y.id→i=j
 nx:∀id f,zam c.log id=some f→id<c.nx
 en:∀id f,zam c.log id=some f→f.status≠0→(∀(k:Nat) (x:Seat),c.seats[k]? =some (some x)→x.id≠id)∧∃s,f.steps.getLast? =some s∧s.tick≤M
 lv:∀id f,zam c.log id=some f→f.status=0→∃(k:Nat) (x:Seat),c.seats[k]? =some (some x)∧x.id=id
 dn:∀(k:Nat) (x:Seat),c.seats[k]? =some (some x)→x.d.now≤c.clock
 on:∀id,(onceS id c.log).1=true∧((onceS id c.log).2=true→id<c.nx∧∀(k:Nat) (x:Seat),c.seats[k]? =some (some x)→x.id≠id)
 cd:hasK 7 c.log→c.drains=true
 cs:hasK 9 c.log→c.stopped=true
 ss:c.stopped=true→c.drains=true∧∀(k:Nat) (x:Seat),c.seats[k]?≠some (some x)
 b7:Behind 7 (λx=>x.kind≠2) c.log
 b9:Behind 9 (λx=>x.kind=1∨x.kind=3) c.log
 c0:0≤c.clock
theorem zd8 {c:Co} {k i:Nat} {y:Option Seat} {x:Seat} (h:(c.put k y).seats[i]? =some (some x)):(i=k∧y=some x)∨(i≠k∧c.seats[i]? =some (some x)):=by
 unfold Co.put at h;simp only [Jy]at h;split at h
 ·rename_i hi;split at h
  ·exact .inl ⟨hi.symm,JQ h⟩
  ·cases h
 ·rename_i hi;exact .inr ⟨λe=>hi e.symm,h⟩
theorem zit {c:Co} {k:Nat} {y:Option Seat} {z:Option Seat} (h:c.seats[k]? =some z):(c.put k y).seats[k]? =some y:=by
 unfold Co.put;exact QR (zaa h)
theorem zgz {c:Co} {k i:Nat} {y:Option Seat} (h:i≠k):(c.put k y).seats[i]? =c.seats[i]?:=by
 unfold Co.put;exact JS λe=>h e.symm
theorem zg8 {l:List EvM} {v:EvM} {id:Int} {f:LifeM} (h2:v.kind≠2) (h:zam (l++[v]) id=some f):∃g,zam l id=some g∧f=g.add v:=by
 rw [zap]at h;cases hg:zam l id with
 | none=>
  rw [hg]at h;dsimp only at h
  have:v.opens id=false:=by unfold EvM.opens;exact decide_eq_false (by simp [h2])
  rw [this,if_neg (by decide)]at h;cases h
 | some g=>rw [hg]at h;exact⟨g,rfl,(JQ h).symm⟩
theorem zdu {l:List EvM} {v:EvM} {id:Int} {f:LifeM} (h:zam l id=some f):zam (l++[v]) id=some (f.add v):=by rw [zap,h]
section
variable {M:Int} {c:Co}
theorem LI.ev (h:LI M c) {c':Co} {v:EvM} (hl:c'.log=c.log++[v]) (h2:v.kind≠2) (h8:v.kind≠8) (hs:∀(k:Nat) (x:Seat),c'.seats[k]? =some (some x)→∃y:Seat,c.seats[k]? =some (some y)∧y.id=x.id∧x.d.now=y.d.now)
  (hs':∀(k:Nat) (y:Seat),c.seats[k]? =some (some y)→∃x:Seat,c'.seats[k]? =some (some x)∧y.id=x.id) (hnx:c.nx≤c'.nx) (hck:c.clock≤c'.clock)
  (hd:c.drains=true→c'.drains=true) (h7:v.kind=7→c'.drains=true) (hst:c.stopped=true→c'.stopped=true∧(v.kind=1∨v.kind=3)) (h9:v.kind=9→c'.stopped=true)
  (hss:c'.stopped=true→c.stopped=true∨(c'.drains=true∧∀(k:Nat) (x:Seat),c'.seats[k]?≠some (some x))):LI M c':=by
 have a8:∀f:LifeM,(f.add v).status=f.status∧(f.add v).steps=f.steps:=λf=>by
  rw [zd1,zhi,if_neg (λhh=>h8 hh.1),if_neg (λhh=>h8 hh.1)];exact⟨rfl,rfl⟩
 have on1:∀id,onceS id c'.log=onceS id c.log:=λid=>by rw [hl,zhz];unfold once1;rw [if_neg (λhh=>h8 hh.1)]
 refine⟨λk x hx=> ?_,λi j x y hx hy hid=> ?_,λid f hf=> ?_,λid f hf h0=> ?_,λid f hf h0=> ?_,λk x hx=> ?_,λid=> ?_,λhk=> ?_,λhk=> ?_,λhs0=> ?_,?_,?_,Int.le_trans h.c0 hck⟩
 ·obtain⟨y,hy,hid,_⟩:=hs k x hx;obtain⟨f,h1,h3⟩:=h.sd k y hy;rw [hid]at h1;exact⟨f.add v,by rw [hl];exact zdu h1,by rw [(a8 f).1];exact h3⟩
 ·obtain⟨x',hx',hid',_⟩:=hs i x hx;obtain⟨y',hy',hid'',_⟩:=hs j y hy;exact h.nd i j x' y' hx' hy' (by rw [hid',hid'',hid])
 ·rw [hl]at hf;obtain⟨g,hg,rfl⟩:=zg8 h2 hf
  have:=h.nx id g hg
  omega
 ·rw [hl]at hf;obtain⟨g,hg,rfl⟩:=zg8 h2 hf;rw [(a8 g).1]at h0;obtain⟨h1,s,h3,h4⟩:=h.en id g hg h0;refine⟨λk x hx=> ?_,s,by rw [(a8 g).2];exact h3,h4⟩;obtain⟨y,hy,hid,_⟩:=hs k x hx;rw [←hid];exact h1 k y hy
 ·rw [hl]at hf;obtain⟨g,hg,rfl⟩:=zg8 h2 hf;rw [(a8 g).1]at h0;obtain⟨k,y,hy,hid⟩:=h.lv id g hg h0;obtain⟨x,hx,hid'⟩:=hs' k y hy;exact⟨k,x,hx,hid'.symm.trans hid⟩
 ·obtain⟨y,hy,_,hn⟩:=hs k x hx
  have:=h.dn k y hy
  omega
 ·rw [on1];obtain⟨h1,h3⟩:=h.on id;refine⟨h1,λho=> ?_⟩;obtain⟨h4,h5⟩:=h3 ho;refine⟨by omega,λk x hx=> ?_⟩;obtain⟨y,hy,hid,_⟩:=hs k x hx;rw [←hid];exact h5 k y hy
 ·rw [hl,zc8]at hk;rcases hk with hk | hk
  ·exact hd (h.cd hk)
  ·exact h7 hk
 ·rw [hl,zc8]at hk;rcases hk with hk | hk
  ·exact(hst (h.cs hk)).1
  ·exact h9 hk
 ·rcases hss hs0 with h1 | h1
  ·obtain⟨h3,h4⟩:=h.ss h1;refine⟨hd h3,λk x hx=> ?_⟩;obtain⟨y,hy,_⟩:=hs k x hx;exact h4 k y hy
  ·exact h1
 ·rw [hl];exact .snoc h.b7 λ_=>h2
 ·rw [hl];exact .snoc h.b9 λhk=>(hst (h.cs hk)).2
theorem zdc (h:LI M c) {k:Nat} {x:Seat} (hk:c.seats[k]? =some (some x)):c.stopped=false:=by
 cases hs:c.stopped with
 | false=>rfl
 | true=>exact absurd hk ((h.ss hs).2 k x)
theorem LI.seatEv (h:LI M c) {k:Nat} {x y:Seat} (hk:c.seats[k]? =some (some x)) (hid:y.id=x.id) (hn:y.d.now=x.d.now) {v:EvM} (h2:v.kind≠2) (h8:v.kind≠8) (h7:v.kind≠7) (h9:v.kind≠9):LI M ((c.put k (some y)).tell v):=by
 have hs0:=zdc h hk;refine h.ev rfl h2 h8 (λi z hz=> ?_) (λi z hz=> ?_) (Int.le_refl _) (Int.le_refl _) (λhh=>hh) (λhh=>absurd hh h7) (λhh=>by rw [hs0]at hh;cases hh) (λhh=>absurd hh h9) (λhh=> .inl hh)
 ·rcases zd8 (c:=c) hz with ⟨hi,hy⟩ | ⟨hi,hz⟩
  ·subst hi;cases hy;exact⟨x,hk,hid.symm,hn⟩
  ·exact⟨z,hz,rfl,rfl⟩
 ·by_cases hi:i=k
  ·subst hi;rw [hk]at hz;cases hz;exact⟨y,zit (c:=c) hk,hid.symm⟩
  ·exact⟨z,(zgz (c:=c) hi).trans hz,rfl⟩
theorem LI.seat (h:LI M c) {k:Nat} {x y:Seat} (hk:c.seats[k]? =some (some x)) (hid:y.id=x.id) (hn:y.d.now=x.d.now):LI M (c.put k (some y)):=by
 have back:∀(i:Nat) (z:Seat),(c.put k (some y)).seats[i]? =some (some z)→∃w:Seat,c.seats[i]? =some (some w)∧w.id=z.id∧z.d.now=w.d.now:=λi z hz=>by
  rcases zd8 hz with ⟨hi,hy⟩ | ⟨hi,hz⟩
  ·subst hi;cases hy;exact⟨x,hk,hid.symm,hn⟩
  ·exact⟨z,hz,rfl,rfl⟩
 have forth:∀(i:Nat) (z:Seat),c.seats[i]? =some (some z)→∃w:Seat,(c.put k (some y)).seats[i]? =some (some w)∧z.id=w.id:=λi z hz=>by
  by_cases hi:i=k
  ·subst hi;rw [hk]at hz;cases hz;exact⟨y,zit hk,hid.symm⟩
  ·exact⟨z,(zgz hi).trans hz,rfl⟩
 refine⟨λi z hz=> ?_,λi j z w hz hw he=> ?_,h.nx,λid f hf h0=> ?_,λid f hf h0=> ?_,λi z hz=> ?_,λid=> ?_,h.cd,h.cs,λhs=> ?_,h.b7,h.b9,h.c0⟩
 ·obtain⟨w,hw,he,_⟩:=back i z hz;rw [←he];exact h.sd i w hw
 ·obtain⟨z',hz',he',_⟩:=back i z hz;obtain⟨w',hw',he'',_⟩:=back j w hw;exact h.nd i j z' w' hz' hw' (by rw [he',he'',he])
 ·obtain⟨h1,h3⟩:=h.en id f hf h0;refine⟨λi z hz=> ?_,h3⟩;obtain⟨w,hw,he,_⟩:=back i z hz;rw [←he];exact h1 i w hw
 ·obtain⟨i,z,hz,he⟩:=h.lv id f hf h0;obtain⟨w,hw,he'⟩:=forth i z hz;exact⟨i,w,hw,he'.symm.trans he⟩
 ·obtain⟨w,hw,_,hn'⟩:=back i z hz
  have:=h.dn i w hw
  show z.d.now≤c.clock;omega
 ·obtain⟨h1,h3⟩:=h.on id;refine⟨h1,λho=>⟨(h3 ho).1,λi z hz=> ?_⟩⟩;obtain⟨w,hw,he,_⟩:=back i z hz;rw [←he];exact(h3 ho).2 i w hw
 ·exact absurd hk ((h.ss hs).2 k x)
theorem zss {d d':Dia} {now:Int} {y:StepM} (h:d.step now=some (y,d')):y.status=d'.status∧y.tick=max d.now now:=by
 unfold Dia.step at h;split at h
 ·cases h;refine⟨rfl,?_⟩;unfold Dia.did;show((d.tick now).does _).1.tick=_
  have:∀(d:Dia) (x:StepM),(d.does x).1.tick=x.tick:=by
   intro d x;unfold Dia.does;have hj:∀(d:Dia) (x:StepM) (to:Int),(d.jump x to).1.tick=x.tick:=by
    intro d x to;unfold Dia.jump;split
    ·rfl
    ·split <;>rfl
   split
   ·rfl
   ·split
    ·unfold Dia.send;split <;>rfl
    ·split
     ·unfold Dia.look;cases d.win.m with
      | none=>rfl
      | some m=>
       dsimp only;split
       ·exact hj _ _ _
       ·split
        ·rfl
        ·split
         ·exact hj _ _ _
         ·split
          ·exact hj _ _ _
          ·rfl
     ·split
      ·exact hj _ _ _
      ·split
       ·rfl
       ·split <;>rfl
  exact this _ _
 ·cases h
theorem LI.stepEv (h:LI M c) (hM:c.clock≤M) {k:Nat} {x:Seat} (hk:c.seats[k]? =some (some x)) {y:StepM} {d':Dia} (hs:x.d.step c.clock=some (y,d')) {z:Option Seat}
  (hz:(d'.status=0∧z=some {x with d:=d'})∨(d'.status≠0∧z=none)):LI M ((c.put k z).tell (zar x.id y)):=by
 have hs0:=zdc h hk;obtain⟨e1,e2⟩:=zss hs;have hl:=zch hs;have hdn:=h.dn k x hk;have hv2:(zar x.id y).kind≠2:=show(8:Int)≠2 by decide
 have back:∀(i:Nat) (w:Seat),((c.put k z).tell (zar x.id y)).seats[i]? =some (some w)→(i=k∧d'.status=0∧w={x with d:=d'})∨(i≠k∧c.seats[i]? =some (some w)):=λi w hw=>by
  rcases zd8 (c:=c) hw with ⟨hi,hy⟩ | ⟨hi,hw⟩
  ·rcases hz with ⟨hz1,hz2⟩ | ⟨_,hz2⟩
   ·rw [hz2]at hy;cases hy;exact .inl ⟨hi,hz1,rfl⟩
   ·rw [hz2]at hy;cases hy
  ·exact .inr ⟨hi,hw⟩
 have other:∀(i:Nat) (w:Seat),i≠k→c.seats[i]? =some (some w)→w.id≠x.id:=λi w hi hw he=>hi (h.nd i k w x hw hk he);have lifeO:∀id f,zam (c.log++[zar x.id y]) id=some f→∃g,zam c.log id=some g∧(id=x.id→f.status=d'.status∧f.steps=g.steps++[y])∧(id≠x.id→f.status=g.status∧f.steps=g.steps):=λid f hf=>by
  obtain⟨g,hg,rfl⟩:=zg8 hv2 hf;have gid:=zck hg;refine⟨g,hg,λhe=> ?_,λhe=> ?_⟩
  ·have:(zar x.id y).kind=8∧(zar x.id y).id=g.id:=⟨rfl,by rw [gid,he];rfl⟩
   rw [zd1,zhi,if_pos this,if_pos this];exact⟨e1,rfl⟩
  ·have:¬((zar x.id y).kind=8∧(zar x.id y).id=g.id):=λhh=>he (by rw [gid]at hh;exact hh.2.symm)
   rw [zd1,zhi,if_neg this,if_neg this];exact⟨rfl,rfl⟩
 obtain⟨fx,hfx,hfx0⟩:=h.sd k x hk;refine⟨λi w hw=> ?_,λi j w w' hw hw' he=> ?_,λid f hf=> ?_,λid f hf h0=> ?_,λid f hf h0=> ?_,λi w hw=> ?_,λid=> ?_,λhh=> ?_,λhh=> ?_,λhh=> ?_,?_,?_,h.c0⟩
 ·rcases back i w hw with ⟨_,h1,rfl⟩ | ⟨hi,hw⟩
  ·refine⟨fx.add (zar x.id y),zdu hfx,?_⟩;obtain⟨g,hg,h2,_⟩:=lifeO x.id _ (zdu hfx);rw [(h2 rfl).1];exact h1
  ·obtain⟨f,hf,h1⟩:=h.sd i w hw;refine⟨f.add (zar x.id y),zdu hf,?_⟩;obtain⟨g,hg,_,h2⟩:=lifeO w.id _ (zdu hf);rw [hf]at hg;cases hg;rw [(h2 (other i w hi hw)).1];exact h1
 ·rcases back i w hw with ⟨hi,_,rfl⟩ | ⟨hi,hw⟩ <;>rcases back j w' hw' with ⟨hj,_,rfl⟩ | ⟨hj,hw'⟩
  ·omega
  ·exact absurd he.symm (other j w' hj hw')
  ·exact absurd he (other i w hi hw)
  ·exact h.nd i j w w' hw hw' he
 ·obtain⟨g,hg,_⟩:=lifeO id f hf;exact h.nx id g hg
 ·obtain⟨g,hg,h1,h2⟩:=lifeO id f hf;by_cases he:id=x.id
  ·obtain⟨h3,h4⟩:=h1 he;rw [h3]at h0;refine⟨λi w hw=> ?_,y,by rw [h4];simp,by rw [e2];omega⟩;rcases back i w hw with ⟨_,h5,_⟩ | ⟨hi,hw⟩
   ·exact absurd h5 h0
   ·rw [he];exact other i w hi hw
  ·obtain⟨h3,h4⟩:=h2 he;rw [h3]at h0;obtain⟨h5,h6⟩:=h.en id g hg h0;rw [h4];refine⟨λi w hw=> ?_,h6⟩;rcases back i w hw with ⟨_,_,rfl⟩ | ⟨hi,hw⟩
   ·exact λhh=>he hh.symm
   ·exact h5 i w hw
 ·obtain⟨g,hg,h1,h2⟩:=lifeO id f hf;by_cases he:id=x.id
  ·obtain⟨h3,_⟩:=h1 he;rw [h3]at h0;rcases hz with ⟨_,hz2⟩ | ⟨hz1,_⟩
   ·exact⟨k,{x with d:=d'},by rw [hz2];exact zit (c:=c) hk,he.symm⟩
   ·exact absurd h0 hz1
  ·obtain⟨h3,_⟩:=h2 he;rw [h3]at h0;obtain⟨i,w,hw,hwe⟩:=h.lv id g hg h0;have hi:i≠k:=λhh=>by rw [hh,hk]at hw;cases hw;exact he hwe.symm
   exact⟨i,w,(zgz (c:=c) hi).trans hw,hwe⟩
 ·rcases back i w hw with ⟨_,_,rfl⟩ | ⟨hi,hw⟩
  ·show d'.now≤c.clock;rw [hl.2.2.1];omega
  ·exact h.dn i w hw
 ·have e3:onceS id (c.log++[zar x.id y])=if id=x.id then((onceS id c.log).1&& !(onceS id c.log).2,y.status != 0)else onceS id c.log:=by
   rw [zhz];unfold once1;by_cases he:id=x.id
   ·rw [if_pos ⟨rfl,he.symm⟩,if_pos he];rfl
   ·rw [if_neg (λhh=>he hh.2.symm),if_neg he]
  show(onceS id (c.log++[zar x.id y])).1=true∧((onceS id (c.log++[zar x.id y])).2=true→_);rw [e3];obtain⟨h1,h2⟩:=h.on id;by_cases he:id=x.id
  ·rw [if_pos he];have hov:(onceS id c.log).2=false:=by
    cases hh:(onceS id c.log).2 with
    | false=>rfl
    | true=>exact absurd he.symm ((h2 hh).2 k x hk)
   rw [hov,h1];refine⟨rfl,λh3=>⟨by rw [he];exact h.nx _ fx hfx,λi w hw=> ?_⟩⟩;rcases back i w hw with ⟨_,h5,rfl⟩ | ⟨hi,hw⟩
   ·rw [e1,h5]at h3;cases h3
   ·rw [he];exact other i w hi hw
  ·rw [if_neg he];refine⟨h1,λh3=>⟨(h2 h3).1,λi w hw=> ?_⟩⟩;rcases back i w hw with ⟨_,_,rfl⟩ | ⟨hi,hw⟩
   ·exact λhh=>he hh.symm
   ·exact(h2 h3).2 i w hw
 ·have hh:hasK 7 (c.log++[zar x.id y]):=hh;rw [zc8]at hh;rcases hh with hh | hh
  ·exact h.cd hh
  ·exact absurd hh (show(8:Int)≠7 by decide)
 ·have hh:hasK 9 (c.log++[zar x.id y]):=hh;rw [zc8]at hh;rcases hh with hh | hh
  ·exact h.cs hh
  ·exact absurd hh (show(8:Int)≠9 by decide)
 ·have hh:c.stopped=true:=hh;rw [hs0]at hh;cases hh
 ·exact .snoc h.b7 λ_=>hv2
 ·exact .snoc h.b9 λhh=>by have:=h.cs hh;rw [hs0]at this;cases this
theorem li_mv {c':Co} (h:LI M c) (ha:c.Al) (hM:c'.clock≤M∨(∀(k:Nat) (x:Seat),c.seats[k]?≠some (some x))) (m:Mv c c'):LI M c':=by
 cases m with
 | round t h1 h2=>
  exact h.ev (v:=zb9 t) rfl (show(1:Int)≠2 by decide) (show(1:Int)≠8 by decide) (λk x hx=>⟨x,hx,rfl,rfl⟩) (λk x hx=>⟨x,hx,rfl⟩) (Int.le_refl _) h1 (λhh=>hh) (λhh=>absurd hh (show(1:Int)≠7 by decide)) (λhh=>⟨hh,.inl rfl⟩) (λhh=>absurd hh (show(1:Int)≠9 by decide)) (λhh=> .inl hh)
 | refuse id n err nx h1 h2=>
  exact h.ev (v:=zbz id n err) rfl (show(3:Int)≠2 by decide) (show(3:Int)≠8 by decide) (λk x hx=>⟨x,hx,rfl,rfl⟩) (λk x hx=>⟨x,hx,rfl⟩) h1 (Int.le_refl _) (λhh=>hh) (λhh=>absurd hh (show(3:Int)≠7 by decide)) (λhh=>⟨hh,.inr rfl⟩) (λhh=>absurd hh (show(3:Int)≠9 by decide)) (λhh=> .inl hh)
 | opens n k hn hg hd hx hk=>
  have fresh:zam c.log c.nx=none:=by
   cases hq:zam c.log c.nx with
   | none=>rfl
   | some q=>have:=h.nx _ q hq;omega
  have hop:∀id,(za5 c.nx n).opens id=decide (c.nx=id):=λid=>by unfold EvM.opens za5;simp
  have seatN:∀(i:Nat) (z:Seat),((({c with nx:=c.nx+1}:Co).put k (some ⟨c.nx,Dia.new c.s (c.ps.getD n.toNat PrM.zero) c.clock,[],false⟩)).tell (za5 c.nx n)).seats[i]? =some (some z)→
    (i=k∧z=⟨c.nx,Dia.new c.s (c.ps.getD n.toNat PrM.zero) c.clock,[],false⟩)∨(i≠k∧c.seats[i]? =some (some z)):=λi z hz=>by
   rcases zd8 (c:={c with nx:=c.nx+1}) hz with ⟨h1,h2⟩ | ⟨h1,h2⟩
   ·exact .inl ⟨h1,(JQ h2).symm⟩
   ·exact .inr ⟨h1,h2⟩
  have old:∀id f,zam (c.log++[za5 c.nx n]) id=some f→(∃g,zam c.log id=some g∧f.status=g.status∧f.steps=g.steps)∨(id=c.nx∧f.status=0):=λid f hf=>by
   rw [zap]at hf;cases hq:zam c.log id with
   | some g=>
    rw [hq]at hf;cases hf;left;refine⟨g,rfl,?_,?_⟩
    ·rw [zd1,if_neg (λhh=>absurd hh.1 (show(2:Int)≠8 by decide))]
    ·rw [zhi,if_neg (λhh=>absurd hh.1 (show(2:Int)≠8 by decide))]
   | none=>
    rw [hq,hop]at hf;dsimp only at hf;split at hf
    ·rename_i hc;cases hf;exact .inr ⟨(of_decide_eq_true hc).symm,rfl⟩
    ·cases hf
  have sid:∀(i:Nat) (z:Seat),c.seats[i]? =some (some z)→z.id<c.nx:=λi z hz=>by
   obtain⟨f,hf,_⟩:=h.sd i z hz;exact h.nx _ f hf
  have hs0:c.stopped=false:=by
   cases hs:c.stopped with
   | false=>rfl
   | true=>have:=(h.ss hs).1;rw [hd]at this;cases this
  refine⟨λi z hz=> ?_,λi j z w hz hw he=> ?_,λid f hf=> ?_,λid f hf h0=> ?_,λid f hf h0=> ?_,λi z hz=> ?_,λid=> ?_,λhk7=> ?_,λhk9=> ?_,λhs=> ?_,?_,?_,h.c0⟩
  ·rcases seatN i z hz with ⟨_,rfl⟩ | ⟨_,hz⟩
   ·refine⟨{LifeM.new c.nx with from_:=c.log.foldl from1 0,script:=n},?_,rfl⟩;show zam (c.log++[za5 c.nx n]) c.nx=_;rw [zap,fresh,hop];dsimp only;rw [if_pos (by simp)];rfl
   ·obtain⟨f,hf,h0⟩:=h.sd i z hz;refine⟨f.add (za5 c.nx n),zdu hf,?_⟩;rw [zd1,if_neg (λhh=>absurd hh.1 (show(2:Int)≠8 by decide))];exact h0
  ·rcases seatN i z hz with ⟨h1,rfl⟩ | ⟨h1,hz⟩ <;>rcases seatN j w hw with ⟨h2,rfl⟩ | ⟨h2,hw⟩
   ·omega
   ·have:=sid j w hw;simp only at he;omega
   ·have:=sid i z hz;simp only at he;omega
   ·exact h.nd i j z w hz hw he
  ·show id<c.nx+1;rcases old id f hf with ⟨g,hg,_⟩ | ⟨h1,_⟩
   ·have:=h.nx id g hg;omega
   ·omega
  ·rcases old id f hf with ⟨g,hg,h1,h2⟩ | ⟨_,h1⟩
   ·rw [h1]at h0;obtain⟨h3,h4⟩:=h.en id g hg h0;rw [h2];refine⟨λi z hz=> ?_,h4⟩;rcases seatN i z hz with ⟨_,rfl⟩ | ⟨_,hz⟩
    ·have:=h.nx id g hg;simp only;omega
    ·exact h3 i z hz
   ·exact absurd h1 h0
  ·rcases old id f hf with ⟨g,hg,h1,h2⟩ | ⟨h1,_⟩
   ·rw [h1]at h0;obtain⟨i,z,hz,he⟩:=h.lv id g hg h0;refine⟨i,z,?_,he⟩;have hi:i≠k:=λe=>by rw [e,hk]at hz;cases hz
    exact(zgz (c:={c with nx:=c.nx+1}) hi).trans hz
   ·exact⟨k,_,zit (c:={c with nx:=c.nx+1}) hk,h1.symm⟩
  ·rcases seatN i z hz with ⟨_,rfl⟩ | ⟨_,hz⟩
   ·show(Dia.new c.s (c.ps.getD n.toNat PrM.zero) c.clock).now≤c.clock;rw [(ziw _ _ _).2.2.2.1]
    have:=h.c0
    unfold own;omega
   ·exact h.dn i z hz
  ·have e1:onceS id (c.log++[za5 c.nx n])=onceS id c.log:=by rw [zhz];unfold once1;rw [if_neg (λhh=>absurd hh.1 (show(2:Int)≠8 by decide))]
   show(onceS id (c.log++[za5 c.nx n])).1=true∧_;rw [e1];obtain⟨h1,h2⟩:=h.on id;refine⟨h1,λho=> ?_⟩;have ho:(onceS id (c.log++[za5 c.nx n])).2=true:=ho;rw [e1]at ho;refine⟨by have:=(h2 ho).1;show id<c.nx+1;omega,λi z hz=> ?_⟩;rcases seatN i z hz with ⟨_,rfl⟩ | ⟨_,hz⟩
   ·have:=(h2 ho).1;simp only;omega
   ·exact(h2 ho).2 i z hz
  ·have hk7:hasK 7 (c.log++[za5 c.nx n]):=hk7;rw [zc8]at hk7;rcases hk7 with hh | hh
   ·exact h.cd hh
   ·exact absurd hh (show(2:Int)≠7 by decide)
  ·have hk9:hasK 9 (c.log++[za5 c.nx n]):=hk9;rw [zc8]at hk9;rcases hk9 with hh | hh
   ·exact h.cs hh
   ·exact absurd hh (show(2:Int)≠9 by decide)
  ·have hs:c.stopped=true:=hs;rw [hs0]at hs;cases hs
  ·exact .snoc h.b7 λhh=>by have:=h.cd hh;rw [hd]at this;cases this
  ·exact .snoc h.b9 λhh=>by have:=h.cs hh;rw [hs0]at this;cases this
 | wire k x q eof hk=>exact h.seat hk rfl rfl
 | drain t ht hd=>
  have hs0:c.stopped=true→False:=λhh=>by
   rcases hd with hd | hd
   ·have:=(h.ss hh).1;rw [hd]at this;cases this
   ·rw [hd]at hh;cases hh
  refine h.ev (v:=zbb t) rfl (show(7:Int)≠2 by decide) (show(7:Int)≠8 by decide) (λk x hx=> ?_) (λk x hx=>⟨cutS t x,zed hx,rfl⟩) (Int.le_refl _) (Int.le_refl _) (λ_=>rfl) (λ_=>rfl) (λhh=>(hs0 hh).elim) (λhh=>absurd hh (show(7:Int)≠9 by decide)) (λhh=> .inl hh);simp only [Co.tell,JW,QI]at hx;obtain⟨o,ho,y,rfl,rfl⟩:=hx;exact⟨y,ho,rfl,(zbv y.d t).2.2⟩
 | read k x hk hr=>exact h.seatEv (y:=x.read1) hk rfl (zcs _ _).2.2 (v:=zd0 x.id ⟨⟨x.reads⟩⟩) (show(4:Int)≠2 by decide) (show(4:Int)≠8 by decide) (show(4:Int)≠7 by decide) (show(4:Int)≠9 by decide)
 | ends k x hk h1 h2=>exact h.seatEv (y:={x with d:=x.d.ends}) hk rfl (zcl _).2.2 (v:=evEof x.id) (show(5:Int)≠2 by decide) (show(5:Int)≠8 by decide) (show(5:Int)≠7 by decide) (show(5:Int)≠9 by decide)
 | write k x n hk h1=>exact h.seatEv (y:={x with d:=x.d.take n}) hk rfl (zcf _ _).2.2 (v:=zdf x.id (x.d.taken n)) (show(6:Int)≠2 by decide) (show(6:Int)≠8 by decide) (show(6:Int)≠7 by decide) (show(6:Int)≠9 by decide)
 | step k x y d' hk hs h0=>
  refine h.stepEv ?_ hk hs (.inl ⟨h0,rfl⟩);rcases hM with hM | hM
  ·exact hM
  ·exact absurd hk (hM k x)
 | last k x y d' hk hs h0=>
  refine h.stepEv ?_ hk hs (.inr ⟨h0,rfl⟩);rcases hM with hM | hM
  ·exact hM
  ·exact absurd hk (hM k x)
 | stop h1 h2 h3=>
  exact h.ev (v:=zf4) rfl (show(9:Int)≠2 by decide) (show(9:Int)≠8 by decide) (λk x hx=>⟨x,hx,rfl,rfl⟩) (λk x hx=>⟨x,hx,rfl⟩) (Int.le_refl _) (Int.le_refl _) (λhh=>hh) (λhh=>absurd hh (show(9:Int)≠7 by decide)) (λhh=>by rw [h2]at hh;cases hh) (λ_=>rfl) (λ_=> .inr ⟨h1,h3⟩)
theorem zmt {a b:Co} (m:Mv a b):a.clock≤b.clock:=by
 cases m with
 | round t h1 h2=>exact h1
 | _=>exact Int.le_refl _
theorem zhv {a b:Co} (p:Path a b):a.clock≤b.clock:=by
 induction p with
 | refl=>exact Int.le_refl _
 | snoc _ m ih=>exact Int.le_trans ih (zmt m)
theorem zvr {a b:Co} (p:Path a b) (hM:b.clock≤M) (ha:a.Al) (h:LI M a):LI M b:=by
 induction p with
 | refl=>exact h
 | snoc p m ih=>
  have:=zmt m
  exact li_mv (ih (by omega)) (zbl p ha) (.inl hM) m
theorem LI.mono (h:LI M c) {M':Int} (hM:M≤M'):LI M' c:=
 {h with en:=λid f hf h0=>by obtain⟨h1,s,h2,h3⟩:=h.en id f hf h0;exact⟨h1,s,h2,by omega⟩}
def Co.Idle (c:Co):Prop:=c.drains=true∧∀(k:Nat) (x:Seat),c.seats[k]?≠some (some x)
theorem z11 {c':Co} (h:c.Idle) (m:Mv c c'):c'.Idle:=by
 obtain⟨h1,h2⟩:=h;cases m with
 | round t _ _=>exact⟨h1,h2⟩
 | refuse id n err nx _ _=>exact⟨h1,h2⟩
 | opens n k hn hg hd hx hk=>rw [h1]at hd;cases hd
 | wire k x q eof hk=>exact absurd hk (h2 k x)
 | drain t ht hd=>
  refine⟨rfl,λk x hx=> ?_⟩;simp only [Co.tell,JW,QI]at hx;obtain⟨o,ho,y,rfl,rfl⟩:=hx;exact h2 k y ho
 | read k x hk _=>exact absurd hk (h2 k x)
 | ends k x hk _ _=>exact absurd hk (h2 k x)
 | write k x n hk _=>exact absurd hk (h2 k x)
 | step k x y d' hk _ _=>exact absurd hk (h2 k x)
 | last k x y d' hk _ _=>exact absurd hk (h2 k x)
 | stop _ _ _=>exact⟨h1,h2⟩
theorem zox {a b:Co} (p:Path a b) (h:a.Idle):b.Idle:=by
 induction p with
 | refl=>exact h
 | snoc _ m ih=>exact z11 ih m
theorem z1w {a b:Co} (p:Path a b) (ha:a.Al) (h:LI M a) (hi:a.Idle):LI M b:=by
 induction p with
 | refl=>exact h
 | snoc p m ih=>exact li_mv ih (zbl p ha) (.inr (zox p hi).2) m
structure CutI (t:Int) (c:Co):Prop where
 dr:c.drains=true
 ct:∀(k:Nat) (x:Seat),c.seats[k]? =some (some x)→Cutd t x.d
theorem zwm {d d':Dia} {t:Int} (hc:Cutd t d) (h0:d.status=0) (h1:d'.status=0) (he:d'.due.cut=d.due.cut):Cutd t d':=by
 rw [zei h0]at hc;rw [zei h1,he];exact hc
theorem zy2 {d:Dia} {t t':Int} (hc:Cutd t d) (h0:d.status=0):Cutd t (d.cut t'):=by
 have h1:(d.cut t').status=0:=(zbv d t').2.1.trans h0;rw [zei h0]at hc;rw [zei h1];have hr:d.runs=true:=by unfold Dia.runs;rw [h0];rfl
 have e:(d.cut t').due.cut=zjc [d.due.cut,t']:=by unfold Dia.cut Due.cuts;rw [if_pos hr]
 rw [e];simp only [zpn]at hc ⊢
 have:=nev
 unfold own at hc ⊢;omega
theorem zqo {t:Int} {c':Co} (h:CutI t c) (ha:c.Al) (m:Mv c c'):CutI t c':=by
 have ha':=al_mv ha m;have put:∀(k:Nat) (x:Seat) (y:Option Seat),c.seats[k]? =some (some x)→(∀z,y=some z→z.d.status=0∧z.d.due.cut=x.d.due.cut)→∀(i:Nat) (z:Seat),(c.put k y).seats[i]? =some (some z)→Cutd t z.d:=λk x y hk hy i z hz=>by
  rcases zd8 hz with ⟨_,h2⟩ | ⟨_,h2⟩
  ·exact zwm (h.ct k x hk) (ha k x hk) (hy z h2).1 (hy z h2).2
  ·exact h.ct i z h2
 cases m with
 | round t _ _=>exact⟨h.dr,h.ct⟩
 | refuse id n err nx _ _=>exact⟨h.dr,h.ct⟩
 | opens n k hn hg hd hx hk=>have:=h.dr;rw [hd]at this;cases this
 | wire k x q eof hk=>exact⟨h.dr,put k x _ hk λz hz=>by cases hz;exact⟨ha k x hk,rfl⟩⟩
 | drain t' ht hd=>
  refine⟨rfl,λk x hx=> ?_⟩;simp only [Co.tell,JW,QI]at hx;obtain⟨o,ho,y,rfl,rfl⟩:=hx;exact zy2 (h.ct k y ho) (ha k y ho)
 | read k x hk _=>exact⟨h.dr,put k x _ hk λz hz=>by cases hz;exact⟨(zcs _ _).2.1.trans (ha k x hk),by show(x.d.put _).due.cut=_;unfold Dia.put;split <;>rfl⟩⟩
 | ends k x hk _ _=>exact⟨h.dr,put k x _ hk λz hz=>by cases hz;exact⟨(zcl _).2.1.trans (ha k x hk),by show(x.d.ends).due.cut=_;unfold Dia.ends;split <;>rfl⟩⟩
 | write k x n hk _=>exact⟨h.dr,put k x _ hk λz hz=>by cases hz;exact⟨(zcf _ _).2.1.trans (ha k x hk),by show(x.d.take n).due.cut=_;unfold Dia.take;split <;>rfl⟩⟩
 | step k x y d' hk hs h0=>exact⟨h.dr,put k x _ hk λz hz=>by cases hz;exact⟨h0,(zk5 hs).cut⟩⟩
 | last k x y d' hk hs h0=>exact⟨h.dr,put k x _ hk λz hz=>by cases hz⟩
 | stop _ _ _=>exact⟨h.dr,h.ct⟩
theorem zpd {t:Int} {a b:Co} (p:Path a b) (ha:a.Al) (h:CutI t a):CutI t b:=by
 induction p with
 | refl=>exact h
 | snoc p m ih=>exact zqo ih (zbl p ha) m
theorem zpc {d:Dia} {t now:Int} (hc:Cutd t d) (h0:d.status=0) (ht:t≤now) (hn:now<never):(d.due.over now).2=true:=by
 rw [zei h0,zpn]at hc;rw [ziv]
 have:=nev
 unfold own at *;omega
theorem zu9 {d d':Dia} {t now:Int} {y:StepM} (hc:Cutd t d) (h0:d.status=0) (ht:t≤now) (hd:d.now≤now) (hn:now<never) (h:d.step now=some (y,d')):d'.status≠0:=by
 obtain⟨_,_,_,_,h5,_⟩:=zch h;have ho:=zpc hc h0 ht hn;rw [h5];unfold Dia.did Dia.does;have e:(d.tick now).now=now:=by unfold Dia.tick;simp only;omega
 have ho':((d.tick now).due.over (d.tick now).now).2=true:=by rw [e];exact ho
 rw [if_pos ho'];show((d.tick now).due.over (d.tick now).now).1≠0
 have:=zea ho'
 omega
structure Quiet (t:Int) (c0:List EvM) (c:Co):Prop where
 ci:CutI t c
 tc:t≤c.clock
 hn:c.clock<never
 dn:∀(k:Nat) (x:Seat),c.seats[k]? =some (some x)→x.d.now≤c.clock
 nd:∀(i j:Nat) (x y:Seat),c.seats[i]? =some (some x)→c.seats[j]? =some (some y)→x.id=y.id→i=j
 ns:∀(k:Nat) (x:Seat),c.seats[k]? =some (some x)→nst x.id c.log=nst x.id c0
theorem zxy {t:Int} {l0:List EvM} {c':Co} (h:Quiet t l0 c) (ha:c.Al) (m:Mv c c'):Quiet t l0 c':=by
 have hci:=zqo h.ci ha m;have hdr:=h.ci.dr;have same:∀(v:EvM),v.kind≠8→∀id,nst id (c.log++[v])=nst id c.log:=λv hv id=>zce hv;have put:∀(k:Nat) (x y:Seat) (v:EvM),c.seats[k]? =some (some x)→y.id=x.id→y.d.now=x.d.now→v.kind≠8→CutI t ((c.put k (some y)).tell v)→Quiet t l0 ((c.put k (some y)).tell v):=λk x y v hk hid hn hv hc=>by
  have back:∀(i:Nat) (z:Seat),((c.put k (some y)).tell v).seats[i]? =some (some z)→∃w:Seat,c.seats[i]? =some (some w)∧w.id=z.id∧z.d.now=w.d.now:=λi z hz=>by
   rcases zd8 (c:=c) hz with ⟨hi,hy⟩ | ⟨hi,hz⟩
   ·subst hi;cases hy;exact⟨x,hk,hid.symm,hn⟩
   ·exact⟨z,hz,rfl,rfl⟩
  refine⟨hc,h.tc,h.hn,λi z hz=> ?_,λi j z w hz hw he=> ?_,λi z hz=> ?_⟩
  ·obtain⟨w,hw,_,h1⟩:=back i z hz
   have:=h.dn i w hw
   show z.d.now≤c.clock;omega
  ·obtain⟨z',hz',e1,_⟩:=back i z hz;obtain⟨w',hw',e2,_⟩:=back j w hw;exact h.nd i j z' w' hz' hw' (by rw [e1,e2,he])
  ·obtain⟨w,hw,e1,_⟩:=back i z hz;show nst z.id (c.log++[v])=_;rw [same v hv,←e1];exact h.ns i w hw
 cases m with
 | round t' h1 h2=>exact⟨hci,Int.le_trans h.tc h1,h2,λk x hk=>Int.le_trans (h.dn k x hk) h1,h.nd,λk x hk=>(same _ (show(1:Int)≠8 by decide) _).trans (h.ns k x hk)⟩
 | refuse id n err nx _ _=>exact⟨hci,h.tc,h.hn,h.dn,h.nd,λk x hk=>(same _ (show(3:Int)≠8 by decide) _).trans (h.ns k x hk)⟩
 | opens n k hn hg hd hx hk=>rw [hd]at hdr;cases hdr
 | wire k x q eof hk=>
  have back:∀(i:Nat) (z:Seat),(c.put k (some {x with q:=q,eof:=eof})).seats[i]? =some (some z)→∃w:Seat,c.seats[i]? =some (some w)∧w.id=z.id∧z.d.now=w.d.now:=λi z hz=>by
   rcases zd8 hz with ⟨hi,hy⟩ | ⟨hi,hz⟩
   ·subst hi;cases hy;exact⟨x,hk,rfl,rfl⟩
   ·exact⟨z,hz,rfl,rfl⟩
  refine⟨hci,h.tc,h.hn,λi z hz=> ?_,λi j z w hz hw he=> ?_,λi z hz=> ?_⟩
  ·obtain⟨w,hw,_,h1⟩:=back i z hz
   have:=h.dn i w hw
   show z.d.now≤c.clock;omega
  ·obtain⟨z',hz',e1,_⟩:=back i z hz;obtain⟨w',hw',e2,_⟩:=back j w hw;exact h.nd i j z' w' hz' hw' (by rw [e1,e2,he])
  ·obtain⟨w,hw,e1,_⟩:=back i z hz;rw [←e1];exact h.ns i w hw
 | drain t' ht hd=>
  have back:∀(i:Nat) (z:Seat),(c.seats.map (Option.map (cutS t')))[i]? =some (some z)→∃w:Seat,c.seats[i]? =some (some w)∧w.id=z.id∧z.d.now=w.d.now:=λi z hz=>by
   simp only [JW,QI]at hz;obtain⟨o,ho,y,rfl,rfl⟩:=hz;exact⟨y,ho,rfl,(zbv y.d t').2.2⟩
  refine⟨hci,h.tc,h.hn,λi z hz=> ?_,λi j z w hz hw he=> ?_,λi z hz=> ?_⟩
  ·obtain⟨w,hw,_,h1⟩:=back i z hz
   have:=h.dn i w hw
   show z.d.now≤c.clock;omega
  ·obtain⟨z',hz',e1,_⟩:=back i z hz;obtain⟨w',hw',e2,_⟩:=back j w hw;exact h.nd i j z' w' hz' hw' (by rw [e1,e2,he])
  ·obtain⟨w,hw,e1,_⟩:=back i z hz;show nst z.id (c.log++[zbb t'])=_;rw [same _ (show(7:Int)≠8 by decide),←e1];exact h.ns i w hw
 | read k x hk _=>exact put k x x.read1 _ hk rfl (zcs _ _).2.2 (show(4:Int)≠8 by decide) hci
 | ends k x hk _ _=>exact put k x {x with d:=x.d.ends} _ hk rfl (zcl _).2.2 (show(5:Int)≠8 by decide) hci
 | write k x n hk _=>exact put k x {x with d:=x.d.take n} _ hk rfl (zcf _ _).2.2 (show(6:Int)≠8 by decide) hci
 | step k x y d' hk hs h0=>exact absurd h0 (zu9 (h.ci.ct k x hk) (ha k x hk) h.tc (h.dn k x hk) h.hn hs)
 | last k x y d' hk hs h0=>
  have back:∀(i:Nat) (z:Seat),((c.put k none).tell (zar x.id y)).seats[i]? =some (some z)→i≠k∧c.seats[i]? =some (some z):=λi z hz=>by
   rcases zd8 (c:=c) hz with ⟨_,hy⟩ | ⟨hi,hz⟩
   ·cases hy
   ·exact⟨hi,hz⟩
  refine⟨hci,h.tc,h.hn,λi z hz=>h.dn i z (back i z hz).2,λi j z w hz hw he=>h.nd i j z w (back i z hz).2 (back j w hw).2 he,λi z hz=> ?_⟩;obtain⟨hi,hz⟩:=back i z hz;have hne:z.id≠x.id:=λhh=>hi (h.nd i k z x hz hk hh);show nst z.id (c.log++[zar x.id y])=_;rw [zeb]
  have:nst z.id [zar x.id y]=0:=by simp [nst,zar,Ne.symm hne]
  have:=h.ns i z hz
  omega
 | stop _ _ _=>exact⟨hci,h.tc,h.hn,h.dn,h.nd,λk x hk=>(same _ (show(9:Int)≠8 by decide) _).trans (h.ns k x hk)⟩
theorem zle {t:Int} {l0:List EvM} {a b:Co} (p:Path a b) (ha:a.Al) (h:Quiet t l0 a):Quiet t l0 b:=by
 induction p with
 | refl=>exact h
 | snoc p m ih=>exact zxy ih (zbl p ha) m
end
section
variable {e:Eng}
theorem zwj (e:Eng) (k:Nat):(e.step k).2.drains=e.drains:=by
 unfold Eng.step;cases e.seat k with
 | none=>rfl
 | some x=>
  dsimp only;cases x.d.step e.clock with
  | none=>dsimp only;split <;>rfl
  | some y=>dsimp only;split <;>rfl
theorem zsg:∀(f:Nat) (e:Eng) (k:Nat),(Eng.spend f e k).2.drains=e.drains
 | 0,_,_=>rfl
 | f+1,e,k=>by
  rw [Eng.spend];cases e.seat k with
  | none=>rfl
  | some x=>
   dsimp only;split
   ·split
    ·split
     ·rw [zsg f _ k,zwj]
     ·rw [zwj]
    ·rfl
   ·rfl
theorem z2a (e:Eng):e.turn.2.drains=e.drains:=by
 unfold Eng.turn;cases e.turns.begin.2 with
 | none=>rfl
 | some k=>
  dsimp only;have h:=zsg ((e.turns.begin.1.has.getD k 0).toNat+1) {e with turns:=e.turns.begin.1} k;split
  ·have:∀(e:Eng) (k:Nat),(e.rest k).drains=e.drains:=λe k=>by unfold Eng.rest;cases e.seat k <;>rfl
   show(Eng.rest _ k).drains=_;rw [this];exact h
  ·exact h
theorem zsf:∀(v:Nat) (e:Eng),(Eng.visit v e).drains=e.drains
 | 0,_=>rfl
 | v+1,e=>by
  rw [Eng.visit];split
  ·rw [zsf v,z2a]
  ·rfl
theorem zqn (e:Eng):e.halt.drains=e.drains:=by unfold Eng.halt;split <;>rfl
theorem zfi (h:Sch e) (acc:List EvM) (r:RoundM):Mv (e.co acc) ((e.start r).co (acc++(e.start r).out))∧Path ((e.start r).co (acc++(e.start r).out)) ((e.told r).wakeAll.co (acc++(e.told r).wakeAll.out))∧
  Path ((e.told r).wakeAll.co (acc++(e.told r).wakeAll.out)) ((e.round r).co (acc++(e.round r).out)):=by
 have ho:=h.g.ok;have m1:Mv (e.co acc) ((e.start r).co (acc++(e.start r).out)):=by
  refine Mv.round (c:=e.co acc) _ ?_ ?_
  ·show e.clock≤min (tadd e.clock r.ticks) (never-1)
   have:=ho.c0;have:=ho.c1
   unfold tadd own;split <;>omega
  ·show min (tadd e.clock r.ticks) (never-1)<never;omega
 have ha1:((e.start r).co (acc++(e.start r).out)).Al:=al_mv (a:=e.co acc) h.g.al m1;have o1:=zfe ho r;obtain⟨o2,h2⟩:=zfj (acc:=acc) (λe a ho _=>⟨zhx ho a,zj1 ho a⟩) r.opens _ o1 ha1;obtain⟨o3,h3⟩:=zfj (acc:=acc) (λe a ho _=>⟨zfm ho a,zs5 a⟩) r.offers _ o2 (zbl h2 ha1);have h3:=Path.trans h2 h3;have h4:=Path.trans h3 (zs6 o3 (zbl h3 ha1) r);have o4:=zi0 o3 r;obtain⟨o5,h5⟩:=zfj (acc:=acc) (λe a ho ha=>⟨zgt ho a,zp4 ho ha a⟩) r.reports _ o4 (zbl h4 ha1);have h5:=Path.trans h4 h5;have h6:=Path.trans h5 zof;have o6:=zhk o5;have h7:=zfh (acc:=acc) e.s.visits.toNat _ o6 (zbl h6 ha1);exact⟨m1,h6,Path.trans h7 (zu7 (zgm _ o6))⟩
theorem zc2 (h:Sch e) (r:RoundM):(e.round r).clock=(e.start r).clock∧(e.round r).s=e.s:=by
 obtain⟨p1,p2⟩:=pre_s h.g r;obtain⟨v1,v2⟩:=zja e.s.visits.toNat _ (zf7 h r).g;have hh:∀e:Eng,e.halt.clock=e.clock∧e.halt.s=e.s:=λe=>by unfold Eng.halt;split <;>exact⟨rfl,rfl⟩
 exact⟨(hh _).1.trans (v1.trans p2),(hh _).2.trans (v2.trans p1)⟩
end
theorem zou {a b:Co} (p:Path a b) (hd:a.drains=true):b.drains=true∧∀(k:Nat) (x:Seat),b.seats[k]? =some (some x)→∃y:Seat,a.seats[k]? =some (some y)∧y.id=x.id:=by
 induction p with
 | refl=>exact⟨hd,λk x hx=>⟨x,hx,rfl⟩⟩
 | @snoc b c p m ih=>
  obtain⟨h1,h2⟩:=ih;have put:∀(k:Nat) (x:Seat) (y:Option Seat),b.seats[k]? =some (some x)→(∀z,y=some z→z.id=x.id)→∀(i:Nat) (z:Seat),(b.put k y).seats[i]? =some (some z)→∃w:Seat,a.seats[i]? =some (some w)∧w.id=z.id:=λk x y hk hy i z hz=>by
   rcases zd8 hz with ⟨h3,h4⟩ | ⟨_,h4⟩
   ·subst h3;obtain⟨w,hw,he⟩:=h2 i x hk;exact⟨w,hw,he.trans (hy z h4).symm⟩
   ·exact h2 i z h4
  cases m with
  | round t _ _=>exact⟨h1,h2⟩
  | refuse id n err nx _ _=>exact⟨h1,h2⟩
  | opens n k hn hg hd' hx hk=>rw [h1]at hd';cases hd'
  | wire k x q eof hk=>exact⟨h1,put k x _ hk λz hz=>by cases hz;rfl⟩
  | drain t' ht hd'=>
   refine⟨rfl,λk x hx=> ?_⟩;simp only [Co.tell,JW,QI]at hx;obtain⟨o,ho,y,rfl,rfl⟩:=hx;exact h2 k y ho
  | read k x hk _=>exact⟨h1,put k x _ hk λz hz=>by cases hz;rfl⟩
  | ends k x hk _ _=>exact⟨h1,put k x _ hk λz hz=>by cases hz;rfl⟩
  | write k x n hk _=>exact⟨h1,put k x _ hk λz hz=>by cases hz;rfl⟩
  | step k x y d' hk hs h0=>exact⟨h1,put k x _ hk λz hz=>by cases hz;rfl⟩
  | last k x y d' hk hs h0=>exact⟨h1,put k x _ hk λz hz=>by cases hz⟩
  | stop _ _ _=>exact⟨h1,h2⟩
def StopB (B:Int) (l:List EvM):Prop:=∃a v b,l=a++v::b∧v.kind=9∧hasK 1 a∧a.foldl from1 0<B
theorem znr {B:Int} {l m:List EvM} (h:StopB B l):StopB B (l++m):=by
 obtain⟨a,v,b,h1,h2⟩:=h;exact⟨a,v,b++m,by rw [h1];simp,h2⟩
def CK (c:Co):Prop:=c.log.foldl from1 0=c.clock
theorem ck_mv {a b:Co} (h:CK a) (m:Mv a b):CK b:=by
 have t:∀v:EvM,v.kind≠1→(a.log++[v]).foldl from1 0=a.clock:=λv hv=>by
  rw [Qa];show from1 (a.log.foldl from1 0) v=_
  unfold from1;rw [if_neg hv];exact h
 cases m with
 | round t' _ _=>
  show(a.log++[zb9 t']).foldl from1 0=t'
  rw [Qa];show from1 (a.log.foldl from1 0) (zb9 t')=_
  unfold from1;exact if_pos rfl
 | refuse id n err nx _ _=>exact t _ (show(3:Int)≠1 by decide)
 | opens n k hn hg hd' hx hk=>exact t _ (show(2:Int)≠1 by decide)
 | wire k x q eof hk=>exact h
 | drain t' ht hd'=>exact t _ (show(7:Int)≠1 by decide)
 | read k x hk _=>exact t _ (show(4:Int)≠1 by decide)
 | ends k x hk _ _=>exact t _ (show(5:Int)≠1 by decide)
 | write k x n hk _=>exact t _ (show(6:Int)≠1 by decide)
 | step k x y d' hk hs h0=>exact t _ (show(8:Int)≠1 by decide)
 | last k x y d' hk hs h0=>exact t _ (show(8:Int)≠1 by decide)
 | stop _ _ _=>exact t _ (show(9:Int)≠1 by decide)
theorem zqu {a b:Co} (p:Path a b) (h:CK a):CK b:=p.keeps (λ_ _ h m=>ck_mv h m) h
theorem znq {B:Int} {a b:Co} (p:Path a b) (hc:CK a) (h1:hasK 1 a.log) (hB:b.clock<B) (h:a.stopped=true→StopB B a.log):b.stopped=true→StopB B b.log:=by
 induction p with
 | refl=>exact h
 | @snoc b c p m ih=>
  have hb:=zmt m;have ih:=ih (by omega);have hcb:=zqu p hc;have h1b:hasK 1 b.log:=by
   obtain⟨l,hl⟩:=zg1 p;obtain⟨x,hx,hk⟩:=h1;exact⟨x,by rw [←hl];exact QK _ hx,hk⟩
  cases m with
  | stop _ _ _=>exact λ_=>⟨b.log,zf4,[],rfl,rfl,h1b,by rw [hcb];change b.clock<B at hB;exact hB⟩
  | wire k x q eof hk=>exact ih
  | _=>exact λhs=>znr (ih hs)
def zeo (t:Int) (l:List EvM):Prop:=∃a v b,l=a++v::b∧v.kind=7∧v.tick=t∧¬hasK 7 a
theorem zh4 {t:Int} {l m:List EvM} (h:zeo t l):zeo t (l++m):=by
 obtain⟨a,v,b,h1,h2⟩:=h;exact⟨a,v,b++m,by rw [h1];simp,h2⟩
theorem zlu {t t':Int} {l:List EvM} (h:zeo t l) (h':zeo t' l):t=t':=by
 obtain⟨a,v,b,h1,h2,h3,h4⟩:=h;obtain⟨a',v',b',g1,g2,g3,g4⟩:=h';rw [h1]at g1;rcases List.append_eq_append_iff.1 g1 with ⟨m,e1,e2⟩ | ⟨m,e1,e2⟩
 ·cases m with
  | nil=>simp at e2;rw [←h3,←g3,e2.1]
  | cons y m=>
   exfalso;simp only [JI,List.cons.injEq]at e2;exact g4 ⟨v,by rw [e1,e2.1];simp,h2⟩
 ·cases m with
  | nil=>simp at e2;rw [←h3,←g3,e2.1]
  | cons y m=>
   exfalso;simp only [JI,List.cons.injEq]at e2;exact h4 ⟨v',by rw [e1,e2.1];simp,g2⟩
def E1 (c0:Int) (c:Co):Prop:=(c.drains=false∧¬hasK 7 c.log)∨∃t,zeo t c.log∧c0≤t∧CutI t c
theorem e1_mv {c0:Int} {a b:Co} (h:E1 c0 a) (ha:a.Al) (h0:c0≤a.clock) (m:Mv a b):E1 c0 b:=by
 rcases h with ⟨h1,h2⟩ | ⟨t,h1,h2,h3⟩
 ·have t:∀v:EvM,v.kind≠7→¬hasK 7 (a.log++[v]):=λv hv hh=>by
   rw [zc8]at hh;rcases hh with hh | hh
   ·exact h2 hh
   ·exact hv hh
  cases m with
  | round t' _ _=>exact .inl ⟨h1,t _ (show(1:Int)≠7 by decide)⟩
  | refuse id n err nx _ _=>exact .inl ⟨h1,t _ (show(3:Int)≠7 by decide)⟩
  | opens n k hn hg hd' hx hk=>exact .inl ⟨h1,t _ (show(2:Int)≠7 by decide)⟩
  | wire k x q eof hk=>exact .inl ⟨h1,h2⟩
  | drain t' ht hd'=>
   refine .inr ⟨t',⟨a.log,zbb t',[],rfl,rfl,rfl,h2⟩,by omega,rfl,λk x hx=> ?_⟩;simp only [Co.tell,JW,QI]at hx;obtain⟨o,ho,y,rfl,rfl⟩:=hx;exact zwn y.d t'
  | read k x hk _=>exact .inl ⟨h1,t _ (show(4:Int)≠7 by decide)⟩
  | ends k x hk _ _=>exact .inl ⟨h1,t _ (show(5:Int)≠7 by decide)⟩
  | write k x n hk _=>exact .inl ⟨h1,t _ (show(6:Int)≠7 by decide)⟩
  | step k x y d' hk hs h0=>exact .inl ⟨h1,t _ (show(8:Int)≠7 by decide)⟩
  | last k x y d' hk hs h0=>exact .inl ⟨h1,t _ (show(8:Int)≠7 by decide)⟩
  | stop h3 _ _=>rw [h1]at h3;cases h3
 ·refine .inr ⟨t,?_,h2,zqo h3 ha m⟩;obtain⟨l,hl⟩:=zg1 (.one m);rw [←hl];exact zh4 h1
theorem zwi {c0:Int} {a b:Co} (p:Path a b) (ha:a.Al) (h0:c0≤a.clock) (h:E1 c0 a):E1 c0 b:=by
 induction p with
 | refl=>exact h
 | snoc p m ih=>exact e1_mv ih (zbl p ha) (Int.le_trans h0 (zhv p)) m
def ze9 (su:Setup) (t each:Int):Int:=t+each*za8 su+each
structure Dr (su:Setup) (t each:Int) (f:FairM):Prop where
 sch:Sch f.e
 es:f.e.s=su
 ck:CK f.co
 ci:CutI t f.co
 li:LI (ze9 su t each-1) f.co
 ph:(∃k x,f.e.seat k=some x)→f.e.clock<t∨∃i:Int,1≤i∧f.e.clock≤t-1+i*each∧t≤f.e.clock∧∀k x,f.e.seat k=some x→Wt1 k x.id (za8 su-i) f.e
 st:(∀k,f.e.seat k=none)→f.e.stopped=true∧StopB (ze9 su t each) f.out
theorem zio {su:Setup} (hs:good su=true):1≤za8 su:=by
 have hf:=zal hs;unfold za8 zcn;rw [if_neg (by rw [hs];decide),if_neg (by rw [hs];decide)];have hm:1≤most su:=by unfold most;omega
 have h2:1≤(most su+su.quantum-1) / su.quantum:=by
  rw [Int.le_ediv_iff_mul_le (by omega)];omega
 have:su.live*1≤su.live*((most su+su.quantum-1) / su.quantum):=Int.mul_le_mul_of_nonneg_left h2 (by omega)
 omega
theorem zr1 {e:Eng} (h:∀k,e.seat k=none) {L:List EvM}:∀(k:Nat) (x:Seat),(e.co L).seats[k]?≠some (some x):=λk x hx=>by
 have:=zao.2 hx
 rw [h]at this;cases this
theorem zyf {e:Eng} (ho:e.Ok) (h:∀k,e.seat k=none):e.slots.live=[]:=by
 cases hl:e.slots.live with
 | nil=>rfl
 | cons a l=>
  have:a∈e.slots.live:=by rw [hl];exact QE
  obtain⟨k,x,hk,_⟩:=ho.sits_iff.1 this;rw [h]at hk;cases hk
theorem zii {e:Eng} (ho:e.Ok) (hd:e.drains=true) (h:∀k,e.halt.seat k=none):e.halt.stopped=true:=by
 have hs:∀k,e.seat k=none:=λk=>by
  have:=h k
  unfold Eng.halt at this;split at this <;>exact this
 have hl:=zyf ho hs;unfold Eng.halt;rw [hd,hl];cases hst:e.stopped with
 | false=>rfl
 | true=>simp [hst]
theorem zrp {f:FairM} {e:Eng} {L:List EvM} {t:Int} (ho:e.Ok) (hc:CutI t (e.co L)) (ht:t≤e.clock):Quiet t L (e.co L):=
 ⟨hc,ht,ho.c1,λk x hk=>(ho.dO k x (zao.2 hk)).2.2,λi j x y hx hy he=>ho.nd i j x y (zao.2 hx) (zao.2 hy) he,λ_ _ _=>rfl⟩
theorem zs7 {d:Dia} {t now:Int} (hc:Cutd t d) (h0:d.status=0) (ht:t≤now) (hd:d.now≤now) (hn:now<never):d.ready now=true:=by
 have ho:=zpc hc h0 ht hn;unfold Dia.ready Dia.runs;rw [h0,Int.max_eq_left hd];unfold Dia.readyAt;rw [if_pos ho];rfl
section
variable {su:Setup} {t each:Int} {f:FairM}
theorem zkj (hs:Sch f.e) (es:f.e.s=su) {r:RoundM} (ci:CutI t ((f.e.told r).wakeAll.co (f.out++(f.e.told r).wakeAll.out))) (ht:t≤(f.e.start r).clock) {k:Nat} {x:Seat} (hk:(f.e.round r).seat k=some x):
  Wt1 k x.id (za8 su-1) (f.e.round r):=by
 obtain⟨m1,p2,p3⟩:=zfi hs f.out r;have h5:=zf7 hs r;obtain⟨q1,q2⟩:=pre_s hs.g r;obtain⟨_,hkp⟩:=zou p3 ci.dr;obtain⟨y,hy,hid⟩:=hkp k x (zao.1 hk);have hy5:=zao.2 hy;have h0:=co_al.1 h5.g.al k y hy5;have hdo:=h5.g.ok.dO k y hy5;have c1:=h5.g.ok.c1;rw [q2]at c1 hdo;have hr:=zs7 (ci.ct k y hy) h0 ht hdo.2.2 c1;have hq:=zle p3 h5.g.al (zrp (f:=f) h5.g.ok ci (by rw [q2];exact ht));have hn:=hq.ns k x (zao.1 hk);change nst x.id (f.out++(f.e.round r).out)=nst x.id (f.out++(f.e.told r).wakeAll.out)at hn;rw [zeb,zeb]at hn
 have:=zw7 hs r hy5 hr
 rw [hid,es]at this;rcases this with h1 | ⟨_,h2⟩
 ·omega
 ·exact h2
theorem zy0 (hd:Dr su t each f) (hg:good su=true) (he:1≤each) (h0:0≤t) (r:RoundM) (hgap:(f.e.round r).clock≤f.e.clock+each):Dr su t each (f.round r):=by
 obtain⟨m1,p2,p3⟩:=zfi hd.sch f.out r;have pall:Path f.co (f.round r).co:=Path.trans (.one m1) (Path.trans p2 p3);have hw:=zio hg;have hal:f.co.Al:=hd.sch.g.al;have sch':=zjo hd.sch r;have es':(f.e.round r).s=su:=(zc2 hd.sch r).2.trans hd.es;have ck':CK (f.round r).co:=zqu pall hd.ck;have ci':CutI t (f.round r).co:=zpd pall hal hd.ci;have hcl:=zc2 hd.sch r;have hB:ze9 su t each=t+each*za8 su+each:=rfl;have hew:each≤each*za8 su:=by
  have:=Int.mul_le_mul_of_nonneg_left hw (show(0:Int)≤each by omega)
  omega
 by_cases hseat:∃k x,f.e.seat k=some x
 ·
  have hi:(f.e.clock<t∨∃i:Int,1≤i∧i+1≤za8 su∧f.e.clock≤t-1+i*each∧t≤f.e.clock∧∀k x,f.e.seat k=some x→Wt1 k x.id (za8 su-i) f.e):=by
   rcases hd.ph hseat with h1 | ⟨i,h1,h2,h3,h4⟩
   ·exact .inl h1
   ·obtain⟨k,x,hk⟩:=hseat
    have:=(h4 k x hk).p
    have hp:1≤f.e.potOf k:=by unfold Eng.potOf;omega
    exact .inr ⟨i,h1,by omega,h2,h3,h4⟩
  have hclB:(f.e.round r).clock≤ze9 su t each-1:=by
   rcases hi with h1 | ⟨i,h1,h2,h3,_⟩
   ·omega
   ·have e1:(i+1)*each≤za8 su*each:=Int.mul_le_mul_of_nonneg_right h2 (by omega);rw [Int.add_mul,Int.one_mul]at e1;rw [Int.mul_comm (za8 su)]at e1;omega
  have li':LI (ze9 su t each-1) (f.round r).co:=zvr pall hclB hal hd.li;refine⟨sch',es',ck',ci',li',λhs'=> ?_,λhs'=> ?_⟩
  ·by_cases hct:(f.e.round r).clock<t
   ·exact .inl hct
   ·right;rcases hi with h1 | ⟨i,h1,h2,h3,h4,h5⟩
    ·refine⟨1,Int.le_refl _,?_,by show t≤(f.e.round r).clock;omega,λk x hk=> ?_⟩
     ·show(f.e.round r).clock≤_;omega
     ·have ci5:CutI t ((f.e.told r).wakeAll.co (f.out++(f.e.told r).wakeAll.out)):=zpd (Path.trans (.one m1) p2) hal hd.ci;exact zkj hd.sch hd.es ci5 (by rw [←hcl.1];omega) hk
    ·refine⟨i+1,by omega,?_,by show t≤(f.e.round r).clock;omega,λk x hk=> ?_⟩
     ·show(f.e.round r).clock≤_;rw [Int.add_mul,Int.one_mul];omega
     ·obtain⟨_,hkp⟩:=zou pall hd.ci.dr;obtain⟨y,hy,hid⟩:=hkp k x (zao.1 hk);have hye:=zao.2 hy;have hq:=zle pall hal (zrp (f:=f) hd.sch.g.ok hd.ci h4);have hn:=hq.ns k x (zao.1 hk);change nst x.id (f.out++(f.e.round r).out)=nst x.id f.out at hn;rw [zeb]at hn;have hw5:=h5 k y hye;rw [hid]at hw5
      have:=zw6 hd.sch r hw5
      rcases this with h6 | h6
      ·omega
      ·have e:za8 su-i-1=za8 su-(i+1):=by omega
       rw [e]at h6;exact h6
  ·have ho6:=zgm (e:=(f.e.told r).wakeAll) f.e.s.visits.toNat (zf7 hd.sch r).g.ok;have hdr:(Eng.visit f.e.s.visits.toNat (f.e.told r).wakeAll).drains=true:=by
    have:(f.e.round r).drains=true:=ci'.dr
    rw [←zqn];exact this
   have hst:(f.e.round r).stopped=true:=zii ho6 hdr hs';refine⟨hst,?_⟩;have hns:f.e.stopped=false:=by
    obtain⟨k,x,hk⟩:=hseat;exact zdc hd.li (zao.1 hk)
   exact znq (Path.trans p2 p3) (ck_mv hd.ck m1) ⟨zb9 _,by show _∈f.out++[zb9 _];exact QH _ (Jg.2 rfl),rfl⟩ (by show(f.e.round r).clock<_;omega) (λhh=>by have:f.e.stopped=true:=hh;rw [hns]at this;cases this) hst
 ·have hno:∀k,f.e.seat k=none:=λk=>by
   cases hk:f.e.seat k with
   | none=>rfl
   | some x=>exact absurd ⟨k,x,hk⟩ hseat
  have hidle:f.co.Idle:=⟨hd.ci.dr,zr1 hno⟩;have hidle':=zox pall hidle;have li':LI (ze9 su t each-1) (f.round r).co:=z1w pall hal hd.li hidle;obtain⟨s1,s2⟩:=hd.st hno;have hst:(f.e.round r).stopped=true:=by
   have:∀{a b:Co},Path a b→a.stopped=true→b.stopped=true:=λ{a b} p hh=>by
    induction p with
    | refl=>exact hh
    | snoc _ m ih=>cases m <;>first | exact ih | rfl
   exact this pall s1
  refine⟨sch',es',ck',ci',li',λ⟨k,x,hk⟩=>absurd (zao.1 hk) (hidle'.2 k x),λ_=>⟨hst,?_⟩⟩;exact znr s2
structure Pd (su:Setup) (f:FairM):Prop where
 sch:Sch f.e
 es:f.e.s=su
 ck:CK f.co
 nd:f.e.drains=false
 n7:¬hasK 7 f.out
 li:LI f.e.clock f.co
theorem zx9 (hd:Pd su f) (hg:good su=true) (he:1≤each) (r:RoundM):Pd su (f.round r)∨∃t,zeo t (f.round r).out∧0≤t∧Dr su t each (f.round r):=by
 obtain⟨m1,p2,p3⟩:=zfi hd.sch f.out r;have pall:Path f.co (f.round r).co:=Path.trans (.one m1) (Path.trans p2 p3);have hw:=zio hg;have hal:f.co.Al:=hd.sch.g.al;have hal1:=al_mv hal m1;have sch':=zjo hd.sch r;have es':(f.e.round r).s=su:=(zc2 hd.sch r).2.trans hd.es;have ck':CK (f.round r).co:=zqu pall hd.ck;have hcl:=zc2 hd.sch r;have c0':0≤(f.e.round r).clock:=sch'.g.ok.c0;have li':LI (f.e.round r).clock (f.round r).co:=by
  refine zvr pall (Int.le_refl _) hal (hd.li.mono ?_);exact zhv pall
 have e1s:E1 (f.e.start r).clock ((f.e.start r).co (f.out++(f.e.start r).out)):=by
  refine .inl ⟨hd.nd,λhh=> ?_⟩;have hh:hasK 7 (f.out++[zb9 _]):=hh;rw [zc8]at hh;rcases hh with hh | hh
  ·exact hd.n7 hh
  ·exact absurd hh (show(1:Int)≠7 by decide)
 have e15:=zwi p2 hal1 (Int.le_refl _) e1s;have e16:=zwi p3 (zbl p2 hal1) (zhv p2) e15;have hdv:(f.e.round r).drains=(f.e.told r).wakeAll.drains:=(zqn _).trans (zsf _ _);rcases e16 with ⟨h1,h2⟩ | ⟨t,h1,h2,h3⟩
 ·exact .inl ⟨sch',es',ck',h1,h2,li'⟩
 ·right;rcases e15 with ⟨g1,g2⟩ | ⟨t5,g1,g2,g3⟩
  ·exfalso
   have:(f.e.round r).drains=true:=h3.dr
   rw [hdv]at this;have g1:(f.e.told r).wakeAll.drains=false:=g1;rw [g1]at this;cases this
  ·have htt:t5=t:=by
    obtain⟨l,hl⟩:=zg1 p3;refine zlu (l:=(f.round r).out) ?_ h1
    have:=zh4 (m:=l) g1
    rw [hl]at this;exact this
   subst htt;have h2:(f.e.start r).clock≤t5:=h2;rw [←hcl.1]at h2;have hB:ze9 su t5 each=t5+each*za8 su+each:=rfl;have hew:each≤each*za8 su:=by
    have:=Int.mul_le_mul_of_nonneg_left hw (show(0:Int)≤each by omega)
    omega
   have hclB:(f.e.round r).clock≤ze9 su t5 each-1:=by omega
   refine⟨t5,h1,by omega,sch',es',ck',h3,li'.mono hclB,λ_=> ?_,λhs'=> ?_⟩
   ·by_cases hct:(f.e.round r).clock<t5
    ·exact .inl hct
    ·right;refine⟨1,Int.le_refl _,by show(f.e.round r).clock≤_;omega,by show t5≤(f.e.round r).clock;omega,λk x hk=> ?_⟩;exact zkj hd.sch hd.es g3 (by rw [←hcl.1];omega) hk
   ·have ho6:=zgm (e:=(f.e.told r).wakeAll) f.e.s.visits.toNat (zf7 hd.sch r).g.ok;have hdr:(Eng.visit f.e.s.visits.toNat (f.e.told r).wakeAll).drains=true:=by
     have:(f.e.round r).drains=true:=h3.dr
     rw [←zqn];exact this
    have hst:(f.e.round r).stopped=true:=zii ho6 hdr hs';refine⟨hst,?_⟩;have hns:f.e.stopped=false:=by
     cases hh:f.e.stopped with
     | false=>rfl
     | true=>have:=(hd.li.ss hh).1;have hn:=hd.nd;change f.e.drains=true at this;rw [hn]at this;cases this
    exact znq (Path.trans p2 p3) (ck_mv hd.ck m1) ⟨zb9 _,by show _∈f.out++[zb9 _];exact QH _ (Jg.2 rfl),rfl⟩ (by show(f.e.round r).clock<_;omega) (λhh=>by have:f.e.stopped=true:=hh;rw [hns]at this;cases this) hst
end
theorem znm:∀(l:List EvM) (y:Int×Int),(l.foldl tick1 y).2=l.foldl from1 y.2
 | [],_=>rfl
 | x::l,y=>by
  rw [Ji,Ji,znm l];congr 1;unfold tick1 from1
  split <;>rfl
theorem zxf (y:Int×Int) (x:EvM):y.1≤(tick1 y x).1:=by
 unfold tick1;split
 ·dsimp only;split <;>omega
 ·exact Int.le_refl _
theorem zhl:∀(l:List EvM) (y:Int×Int),y.1≤(l.foldl tick1 y).1
 | [],_=>Int.le_refl _
 | x::l,y=>by
  rw [Ji];exact Int.le_trans (zxf y x) (zhl l _)
theorem znl (l m:List EvM):zbj l≤zbj (l++m):=by
 unfold zbj;rw [Qa];exact zhl m _
theorem znk (l:List EvM):1≤zbj l:=zhl l (1,0)
theorem z3r {a b:Int} (h0:0≤a) (h1:a≤b) (h2:b<never):gapV a b=b-a:=by
 unfold gapV;have e1:(if 0>b then 0 else b)=b:=if_neg (by omega);have e2:(if 0>a then 0 else a)=a:=if_neg (by omega);rw [e1,e2,zad (by have:=nev;omega)];split <;>omega
theorem zpo {f:FairM} (hs:Sch f.e) (hc:CK f.co) (r:RoundM):(f.e.round r).clock-f.e.clock≤zbj (f.round r).out:=by
 obtain⟨m1,p2,p3⟩:=zfi hs f.out r;have hcl:=(zc2 hs r).1;have h0:=hs.g.ok.c0;have h1:=(zjo hs r).g.ok.c1;have h2:=zf6 hs.g.ok r;obtain⟨l,hl⟩:=zg1 (Path.trans p2 p3);have hl:(f.out++[zb9 (f.e.start r).clock])++l=(f.round r).out:=hl;rw [←hl];refine Int.le_trans ?_ (znl _ l);unfold zbj;rw [Qa,Ji,QT];have e2:(f.out.foldl tick1 (1,0)).2=f.e.clock:=(znm _ _).trans hc;generalize f.out.foldl tick1 (1,0)=y at e2;unfold tick1;rw [if_pos (show(zb9 (f.e.start r).clock).kind=1 from rfl),e2];have e3:gapV f.e.clock (zb9 (f.e.start r).clock).tick=(f.e.round r).clock-f.e.clock:=by
  show gapV f.e.clock (f.e.start r).clock=_;rw [hcl];exact z3r h0 h2 (by omega)
 rw [e3];dsimp only;split <;>omega
theorem zkh:∀(rs:List RoundM) (f:FairM),f.out <+:(rs.foldl FairM.round f).out
 | [],_=>List.prefix_refl _
 | r::rs,f=>(List.prefix_append f.out _).trans (zkh rs (f.round r))
def Way (su:Setup) (each:Int) (f:FairM):Prop:=Pd su f∨∃t,zeo t f.out∧0≤t∧Dr su t each f
theorem zts {su:Setup} {each:Int} {f:FairM} (h:Way su each f) (hg:good su=true) (he:1≤each) (r:RoundM) (ht:zbj (f.round r).out≤each):Way su each (f.round r):=by
 rcases h with h | ⟨t,h1,h2,h3⟩
 ·exact zx9 h hg he r
 ·have:=zpo h3.sch h3.ck r
  exact .inr ⟨t,zh4 h1,h2,zy0 h3 hg he h2 r (by omega)⟩
theorem ztr {su:Setup} {each:Int} (hg:good su=true) (he:1≤each):∀(rs:List RoundM) (f:FairM),Way su each f→zbj (rs.foldl FairM.round f).out≤each→Way su each (rs.foldl FairM.round f)
 | [],_,h,_=>h
 | r::rs,f,h,ht=>by
  refine ztr hg he rs (f.round r) (zts h hg he r ?_) ht;obtain⟨l,hl⟩:=zkh rs (f.round r)
  have:=znl (f.round r).out l
  rw [hl]at this;exact Int.le_trans this ht
theorem z0k {su:Setup} {ps:List PrM} (each:Int) (hs:good su=true) (hf:∀p∈ps,p.Fit) (hl:ps.length≤64):Way su each (FairM.new su ps):=by
 have no:∀k,(Eng.new su ps).seat k=none:=by
  intro k;unfold Eng.new Eng.seat;simp only;rw [JA,QD];split <;>rfl
 have hn:=zr1 no (L:=[]);have h0:∀k,¬hasK k ([]:List EvM):=λk ⟨x,hx,_⟩=>by cases hx
 refine .inl ⟨z00 hs hf hl,rfl,rfl,rfl,h0 7,?_⟩;refine⟨λk x hx=>absurd hx (hn k x),λi j x y hx=>absurd hx (hn i x),λid f hf=>(by cases hf),λid f hf=>(by cases hf),λid f hf=>(by cases hf),λk x hx=>absurd hx (hn k x),λid=>⟨rfl,λh=>(by cases h)⟩,λh=>absurd h (h0 7),λh=>absurd h (h0 9),λh=>(by cases h),.nil,.nil,Int.le_refl _⟩
theorem zxb {su:Setup} (hs:good su=true) {t each:Int} (ht:0≤t) (he:1≤each) (h:zbe su t each≠never):zbe su t each=ze9 su t each:=by
 have hw:=zio hs;unfold zbe at h ⊢;rw [if_neg (by rw [hs];decide)]at h ⊢;have hh:=nev;have hp:1≤each*za8 su:=by
  have:=Int.mul_le_mul he hw (by omega) (by omega)
  omega
 unfold ze9;unfold zk3 at h ⊢;rw [if_neg (by omega),if_neg (by omega)]at h ⊢;generalize each*za8 su=P at *;unfold tadd own at h ⊢
 repeat' split
 all_goals (repeat' split at h) <;>omega
structure DrainL (su:Setup) (l:List EvM):Prop where
 b7:Behind 7 (λx=>x.kind≠2) l
 b9:Behind 9 (λx=>x.kind=1∨x.kind=3) l
 once:∀id,(onceS id l).1=true
 late:∀t,zeo t l→zbe su t (zbj l)≠never→zbe su t (zbj l)≤l.foldl from1 0→
  (∀id f,zam l id=some f→f.status≠0∧∃s,f.steps.getLast? =some s∧s.tick<zbe su t (zbj l))∧StopB (zbe su t (zbj l)) l
theorem drains {su:Setup} {ps:List PrM} {rs:List RoundM} (hs:good su=true) (hf:∀p∈ps,p.Fit) (hl:ps.length≤64):DrainL su (FairM.run su ps rs).out:=by
 have he:=znk (FairM.run su ps rs).out;have hway:Way su (zbj (FairM.run su ps rs).out) (FairM.run su ps rs):=ztr hs he rs _ (z0k _ hs hf hl) (Int.le_refl _);generalize FairM.run su ps rs=f at *;rcases hway with h | ⟨t,h1,h2,h3⟩
 ·refine⟨h.li.b7,h.li.b9,λid=>(h.li.on id).1,λt ht=> ?_⟩;obtain⟨a,v,b,e1,e2,_⟩:=ht;exact absurd ⟨v,by rw [e1];simp,e2⟩ h.n7
 ·refine⟨h3.li.b7,h3.li.b9,λid=>(h3.li.on id).1,λt' ht' hn hle=> ?_⟩
  have:=zlu h1 ht'
  subst this;have hu:=zxb hs h2 he hn;rw [hu]at hle ⊢;have hck:f.out.foldl from1 0=f.e.clock:=h3.ck
  rw [hck]at hle;have hw:=zio hs;have hB:ze9 su t (zbj f.out)=t+zbj f.out*za8 su+zbj f.out:=rfl;have hno:∀k,f.e.seat k=none:=λk=>by
   cases hk:f.e.seat k with
   | none=>rfl
   | some x=>
    exfalso;have hp:1≤zbj f.out*za8 su:=by
     have:=Int.mul_le_mul he hw (by omega) (by omega)
     omega
    rcases h3.ph ⟨k,x,hk⟩with g1 | ⟨i,g1,g2,g3,g4⟩
    ·omega
    ·have hpp:=(g4 k x hk).p
     have:1≤f.e.potOf k:=by unfold Eng.potOf;omega
     have e1:i*zbj f.out≤za8 su*zbj f.out:=Int.mul_le_mul_of_nonneg_right (by omega) (by omega);rw [Int.mul_comm (za8 su)]at e1;omega
  refine⟨λid g hg=> ?_,(h3.st hno).2⟩;by_cases h0:g.status=0
  ·obtain⟨k,x,hk,_⟩:=h3.li.lv id g hg h0
   have:=zao.2 hk
   rw [hno]at this;cases this
  ·obtain⟨_,s,q1,q2⟩:=h3.li.en id g hg h0;exact⟨h0,s,q1,by omega⟩
end Go.Proofs.YtbjlfobjngogkaaGreatDoor
namespace Go.Proofs.YtbjlfobjngogkaaGreatDoor
open Go
variable {K:Value→SP} {cs:St}
@[reducible] def s14 (x0:Option Addr) (y0:Nat) (z0:Nat) (x1:Int) (K:Value→SP):SP:=
 Lp (λc e=>unB (e.headD undef) λd=>unI .i64 (e.tail.headD undef) λa=>br (decide (a<(y0:Int))) (ix 30 (.slice x0 y0 z0) (a) λf=>ldA 101 (f) λg=>new 101 λb=>st 101 (b) (.agg (.mk g))<|ldI .i64 3 (b.add 0) λh=>br (h != 8) (c [.bool d,.int .i64 (w64 (a+1))])<|ldI .i64 3 (b.add 1) λi=>br (i != x1) (c [.bool d,.int .i64 (w64 (a+1))])<|br (d) (K (.bool false))<|ldI .i64 3 ((b.add 6).add 5) λj=>c [.bool (j != 0),.int .i64 (w64 (a+1))])<|K (.bool true)) [.bool false,.int .i64 0]
theorem f14 {x0:Option Addr} {y0 z0:Nat} {x1:Int} (h:s14 x0 y0 z0 x1 K cs):fn 14 [.slice x0 y0 z0,.int .i64 x1] K cs:=fO (an:=⟨[(3,[(5,.bool),(10,.int .i64)])],[]⟩) Tryz.func14 h
@[reducible] def s15 (x0:Option Addr) (y0:Nat) (z0:Nat) (K:Value→SP):SP:=
 fn 43 [.slice x0 y0 z0,.int .i64 7]<|uI .i64 λa=>fn 43 [.slice x0 y0 z0,.int .i64 9]<|uI .i64 λb=>Jn (λ_=>br (decide (b<0)) (K (.bool true))<|qy (Instr.sliceAt 30 (.slice x0 y0 z0) (some (.int .i64 (w64 (b+1)))) none none)<|uL λd e f=>fn 45 [.slice d e f,.func (Fn.func 44) (Array.mk []) (Array.mk [])]<|uB λg=>K (.bool !g))<|λc=>br (decide (a≥0)) (qy (Instr.sliceAt 30 (.slice x0 y0 z0) (some (.int .i64 a)) none none)<|uL λh i j=>fn 43 [.slice h i j,.int .i64 2]<|uI .i64 λk=>br (decide (k≥0)) (K (.bool false))<|c [])<|c []
theorem f15 {x0:Option Addr} {y0 z0:Nat} (h:s15 x0 y0 z0 K cs):fn 15 [.slice x0 y0 z0] K cs:=fO (an:=⟨[],[(4,[])]⟩) Tryz.func15 h
@[reducible] def s16 (x0:List Value) (x1:Option Addr) (y1:Nat) (z1:Nat) (x2:Int) (K:Value→SP):SP:=
 box 23 (.agg (.mk x0)) λm=>ldA 23 (m) λn=>fn 46 [.agg (.mk n),.slice x1 y1 z1,.int .i64 x2]<|uT λh=>gI .i64 h 0 λo=>gB h 1 λp=>br (!p) (K (.slice none 0 0))<|fn 43 [.slice x1 y1 z1,.int .i64 7]<|uI .i64 λq=>qy (Instr.sliceAt 30 (.slice x1 y1 z1) none (some (.int .i64 q)) none)<|uL λr s t=>fn 11 [.slice r s t]<|uL λu i v=>Lp (λe j=>unL (j.headD undef) λb c d=>unI .i64 (j.tail.headD undef) λa=>br (decide (a<(i:Int))) (ix 34 (.slice u i v) (a) λw=>ldI .i64 3 (w) λf=>fn 12 [.slice x1 y1 z1,.int .i64 f]<|uT λk=>gA k 0 λx=>gB k 1 λ_=>new 39 λg=>st 39 (g) (.agg (.mk x))<|ldL 37 (g.add 4) λ_ l _=>ldI .i64 3 (g.add 8) λy=>br (y == 0) (sm (Instr.buildSlice 34 1 (Array.mk [(0,.int .i64 f)]))<|uL λz A B=>sm (Builtin.append_ (Array.mk [34,34]) 34 (Array.mk [.slice b c d,.slice z A B]))<|uL λC D E=>e [.slice C D E,.int .i64 (w64 (a+1))])<|br ((l:Int) == 0) (sm (Instr.buildSlice 34 1 (Array.mk [(0,.int .i64 f)]))<|uL λF G H=>sm (Builtin.append_ (Array.mk [34,34]) 34 (Array.mk [.slice b c d,.slice F G H]))<|uL λI J L=>e [.slice I J L,.int .i64 (w64 (a+1))])<|ldL 37 (g.add 4) λM N O=>ix 37 (.slice M N O) (w64 ((l:Int)-1)) λP=>ldI .i64 2 (P.add 0) λQ=>br (decide (Q≥o)) (sm (Instr.buildSlice 34 1 (Array.mk [(0,.int .i64 f)]))<|uL λR S T=>sm (Builtin.append_ (Array.mk [34,34]) 34 (Array.mk [.slice b c d,.slice R S T]))<|uL λU V W=>e [.slice U V W,.int .i64 (w64 (a+1))])<|e [.slice b c d,.int .i64 (w64 (a+1))])<|K (.slice b c d)) [.slice none 0 0,.int .i64 0]
theorem f16 {x0:List Value} {x1:Option Addr} {y1 z1:Nat} {x2:Int} (h:s16 x0 x1 y1 z1 x2 K cs):fn 16 [.agg (.mk x0),.slice x1 y1 z1,.int .i64 x2] K cs:=fO (an:=⟨[(6,[(7,.sl),(30,.int .i64)])],[]⟩) Tryz.func16 h
@[reducible] def s17 (x0:List Value) (x1:Option Addr) (y1:Nat) (z1:Nat) (x2:Int) (K:Value→SP):SP:=
 box 23 (.agg (.mk x0)) λi=>ldA 23 (i) λj=>fn 46 [.agg (.mk j),.slice x1 y1 z1,.int .i64 x2]<|uT λg=>gI .i64 g 0 λk=>gB g 1 λl=>br (!l) (K (.bool true))<|Lp (λb e=>unI .i64 (e.headD undef) λc=>unB (e.tail.headD undef) λd=>unI .i64 (e.tail.tail.headD undef) λa=>br (decide (a<(y1:Int))) (ix 30 (.slice x1 y1 z1) (a) λm=>ldA 101 (m) λn=>new 101 λf=>st 101 (f) (.agg (.mk n))<|ldI .i64 3 (f.add 0) λh=>br (h == 1) (ldI .i64 2 (f.add 3) λo=>b [.int .i64 o,.bool true,.int .i64 (w64 (a+1))])<|br (h == 9) (br (d) (br (decide (c<k)) (K (.bool true))<|b [.int .i64 c,.bool d,.int .i64 (w64 (a+1))])<|b [.int .i64 c,.bool d,.int .i64 (w64 (a+1))])<|b [.int .i64 c,.bool d,.int .i64 (w64 (a+1))])<|K (.bool false)) [.int .i64 0,.bool false,.int .i64 0]
theorem f17 {x0:List Value} {x1:Option Addr} {y1 z1:Nat} {x2:Int} (h:s17 x0 x1 y1 z1 x2 K cs):fn 17 [.agg (.mk x0),.slice x1 y1 z1,.int .i64 x2] K cs:=fO (an:=⟨[(6,[(9,.int .i64),(10,.bool),(24,.int .i64)])],[]⟩) Tryz.func17 h
@[reducible] def s43 (x0:Option Addr) (y0:Nat) (z0:Nat) (x1:Int) (K:Value→SP):SP:=
 box 3 (.int .i64 x1) λa=>fn 110 [.slice x0 y0 z0,.func (Fn.func 114) (Array.mk []) (Array.mk [.pointer (some a)])]<|uI .i64 λb=>K (.int .i64 b)
theorem f43 {x0:Option Addr} {y0 z0:Nat} {x1:Int} (h:s43 x0 y0 z0 x1 K cs):fn 43 [.slice x0 y0 z0,.int .i64 x1] K cs:=fO (an:=⟨[],[]⟩) Tryz.func43 h
@[reducible] def s44 (x0:List Value) (K:Value→SP):SP:=
 box 101 (.agg (.mk x0)) λa=>ldI .i64 3 (a.add 0) λb=>br (b != 1) (ldI .i64 3 (a.add 0) λc=>K (.bool (c != 3)))<|K (.bool false)
theorem f44 {x0:List Value} (h:s44 x0 K cs):fn 44 [.agg (.mk x0)] K cs:=fO (an:=⟨[],[]⟩) Tryz.func44 h
@[reducible] def s46 (x0:List Value) (x1:Option Addr) (y1:Nat) (z1:Nat) (x2:Int) (K:Value→SP):SP:=
 box 23 (.agg (.mk x0)) λb=>fn 115 [.slice x1 y1 z1]<|uT λc=>gI .i64 c 0 λd=>gB c 1 λe=>Jn (λ_=>ldA 23 (b) λf=>fn 116 [.agg (.mk f),.int .i64 d,.int .i64 x2]<|uI .i64 λa=>br (a == 9223372036854775807) (K (.tuple (Array.mk [.int .i64 0,.bool false])))<|fn 117 [.slice x1 y1 z1]<|uI .i64 λg=>br (decide (a>g)) (K (.tuple (Array.mk [.int .i64 0,.bool false])))<|K (.tuple (Array.mk [.int .i64 a,.bool true])))<|λh=>br (!e) (K (.tuple (Array.mk [.int .i64 0,.bool false])))<|ldA 23 (b) λi=>fn 68 [.agg (.mk i)]<|uB λj=>br (!j) (K (.tuple (Array.mk [.int .i64 0,.bool false])))<|br (decide (x2<1)) (K (.tuple (Array.mk [.int .i64 0,.bool false])))<|h []
theorem f46 {x0:List Value} {x1:Option Addr} {y1 z1:Nat} {x2:Int} (h:s46 x0 x1 y1 z1 x2 K cs):fn 46 [.agg (.mk x0),.slice x1 y1 z1,.int .i64 x2] K cs:=fO (an:=⟨[],[(4,[])]⟩) Tryz.func46 h
@[reducible] def s114 (x0:List Value) (x1:Addr) (K:Value→SP):SP:=
 box 101 (.agg (.mk x0)) λa=>ldI .i64 3 (a.add 0) λb=>ldI .i64 3 (x1) λc=>K (.bool (b == c))
theorem f114 {x0:List Value} {x1:Addr} (h:s114 x0 x1 K cs):fn 114 [.agg (.mk x0),.pointer (some x1)] K cs:=fO (an:=⟨[],[]⟩) Tryz.func114 h
@[reducible] def s115 (x0:Option Addr) (y0:Nat) (z0:Nat) (K:Value→SP):SP:=
 fn 43 [.slice x0 y0 z0,.int .i64 7]<|uI .i64 λa=>br (decide (a<0)) (K (.tuple (Array.mk [.int .i64 0,.bool false])))<|ix 30 (.slice x0 y0 z0) (a) λb=>ldI .i64 2 (b.add 3) λc=>K (.tuple (Array.mk [.int .i64 c,.bool true]))
theorem f115 {x0:Option Addr} {y0 z0:Nat} (h:s115 x0 y0 z0 K cs):fn 115 [.slice x0 y0 z0] K cs:=fO (an:=⟨[],[]⟩) Tryz.func115 h
end Go.Proofs.YtbjlfobjngogkaaGreatDoor
namespace Go.Proofs.YtbjlfobjngogkaaGreatDoor
open Go
set_option synthInstance.maxSize 100000
set_option synthInstance.maxHeartbeats 1000000
set_option maxRecDepth 100000
def isK (k:Int) (y:EvM):Bool:=y.kind == k
def fstP (p:EvM→Bool) (L:List EvM):Int:=if L.findIdx p<L.length then(L.findIdx p:Int)else -1
theorem zv3 {p:EvM→Bool} {L:List EvM} (h:∀x∈L,p x=false):fstP p L= -1:=by
 unfold fstP;rw [if_neg];intro hh;obtain⟨x,hx,hp⟩:=List.findIdx_lt_length.1 hh;rw [h x hx]at hp;cases hp
theorem zqk {p:EvM→Bool} {L:List EvM} (h:0≤fstP p L):∃a v b,L=a++v::b∧p v=true∧(∀x∈a,p x=false)∧fstP p L=a.length:=by
 unfold fstP at h ⊢;split at h
 ·rename_i hl;rw [if_pos hl];refine⟨L.take (L.findIdx p),L[L.findIdx p],L.drop (L.findIdx p+1),?_,List.findIdx_getElem,λx hx=> ?_,?_⟩
  ·rw [←JM hl,Jx]
  ·obtain⟨i,hi,rfl⟩:=List.mem_iff_getElem.1 hx;rw [Jh]at hi
   have:=List.not_of_lt_findIdx (p:=p) (xs:=L) (i:=i) (by omega)
   rw [List.getElem_take];simpa using this
  ·rw [Jh];omega
 ·omega
theorem zyc {k:Int} {l:List EvM} (h:∀x∈l,isK k x=false):¬hasK k l:=λ⟨x,hx,e⟩=>by
 have:=h x hx
 unfold isK at this;rw [JL]at this;exact this e
theorem zpi {k:Int} {P:EvM→Prop} {l:List EvM} (h:Behind k P l):∀(a:List EvM) (v:EvM) (b:List EvM),l=a++v::b→v.kind=k→∀x∈b,P x:=by
 induction h with
 | nil=>intro a v b e;simp at e
 | snoc h hx ih=>
  intro a v b e hk y hy;rcases List.eq_nil_or_concat b with rfl | ⟨b',z,rfl⟩
  ·cases hy
  ·have e2:a++v::(b'++[z])=(a++v::b')++[z]:=by simp
   rw [List.concat_eq_append,e2]at e;obtain⟨e3,e4⟩:=List.append_inj' e rfl;rw [List.concat_eq_append]at hy;rcases JX.1 hy with hy | hy
   ·exact ih a v b' e3 hk y hy
   ·rw [Jg]at hy;simp only [List.cons.injEq,and_true]at e4;rw [hy,←e4];exact hx ⟨v,by rw [e3];simp,hk⟩
theorem zhy (id:Int):∀(l:List EvM) (b:Bool),(l.foldl (once1 id) (false,b)).1=false
 | [],_=>rfl
 | x::l,b=>by
  rw [Ji];unfold once1;split
  ·exact zhy id l _
  ·exact zhy id l _
theorem zlt:∀(l:List EvM) (f:LifeM),(l.foldl LifeM.add f).steps.length≤f.steps.length+l.length
 | [],_=>JG _
 | x::l,f=>by
  have h1:=zlt l (f.add x);have h2:=(zw1 f x).2.1;rw [Ji,Jw];omega
theorem zte {L:List EvM} {id:Int} {f:LifeM} (h:zam L id=some f):f.steps.length≤L.length:=by
 unfold zam at h;split at h
 ·have e:=JQ h;have h1:=zlt (L.drop (L.findIdx (EvM.opens id)+1)) {LifeM.new id with from_:=(L.take (L.findIdx (EvM.opens id))).foldl from1 0,script:=((L.drop (L.findIdx (EvM.opens id))).head?.map EvM.n).getD 0};rw [e,Jb]at h1
  have:({LifeM.new id with from_:=(L.take (L.findIdx (EvM.opens id))).foldl from1 0,script:=((L.drop (L.findIdx (EvM.opens id))).head?.map EvM.n).getD 0}:LifeM).steps.length=0:=rfl
  omega
 ·cases h
theorem z0m (n:Int):w64 n≤never:=by
 have:=nev
 unfold w64;simp only [IntKind.wrap,IntKind.bits,IntKind.signed];simp;split <;>omega
theorem zjd:∀(l:List EvM) (y:Int×Int),y.1≤never→(l.foldl tick1 y).1≤never
 | [],_,h=>h
 | x::l,y,h=>by
  rw [Ji];refine zjd l _ ?_;unfold tick1;have hg:gapV y.2 x.tick≤never:=by
   unfold gapV
   have:=nev
   have h2:=z0m ((if 0>x.tick then 0 else x.tick)-if 0>y.2 then 0 else y.2);generalize w64 ((if 0>x.tick then 0 else x.tick)-if 0>y.2 then 0 else y.2)=z at h2 ⊢;split <;>omega
  split
  ·dsimp only;split <;>omega
  ·exact h
section
variable {cs:St} {K:Value→SP} {a:Option Addr} {n c:Nat} {L:List EvM}
theorem c114t {k:Int} {x:EvM} {q:Nat} (r:RdB cs q 3 [.int .i64 k]) (h:K (.bool (isK k x)) cs):fn 114 [.agg ⟨zca x⟩,.pointer (some (ad q 0))] K cs:=up0 (f114 (by
 unfold s114;exact go λb1=>fin h))
instance c43 {k:Int} [r:Rw 101 12 cs a n c encEv L]:Go1 (fn 43 [.slice a n c,.int .i64 k] K cs) (n≤4000000000000∧K (.int .i64 (fstP (isK k) L)) cs):=⟨λ⟨hn,h⟩=>up0 (f43 (by
 unfold s43;refine go λb1=> ?_;refine c110t (L:=L) (p:=isK k) inferInstance (λy K h=>go (c114t inferInstance h)) hn ?_;exact go (fin h)))⟩
def isOut (y:EvM):Bool:=if y.kind=1 then false else y.kind != 3
theorem c44t {x:EvM} (h:K (.bool (isOut x)) cs):fn 44 [.agg ⟨zca x⟩] K cs:=up0 (f44 (by
 unfold s44;unfold isOut at h;refine go λb1=>⟨λc=> ?_,λc=> ?_⟩
 ·rw [if_neg (by simpa using c)]at h;exact fin h
 ·rw [if_pos (by simpa using c)]at h;exact fin h))
theorem c14t {id:Int} (r:Rw 101 12 cs a n c encEv L) (hn:n≤4000000000000) (ho:(onceS id L).1=true) (h:K (.bool true) cs):fn 14 [.slice a n c,.int .i64 id] K cs:=up0 (f14 (by
 unfold s14;have r:=r;have hl:=r.h.len;refine lp (λy:Nat×Bool=>[.bool y.2,.int .i64 y.1]) (λ_=>cs) (λy=>y.1≤n∧((L.drop y.1).foldl (once1 id) (true,y.2)).1=true) (λy=>n-y.1) (0,false) rfl (Imp.refl _) ⟨JJ _,by rw [Jm];exact ho⟩ ?_;rintro⟨i,u⟩ ⟨i1,i2⟩;dsimp only at *;refine go ?_;simp only [JD,JB,JE,QJ,ne_eq,QC];refine⟨λc0=>⟨by omega,λz hz b1=> ?_⟩,λc0=>fin h⟩;have hil:=zaa hz;have ed:L.drop i=z::L.drop (i+1):=by
  rw [JM hil];rw [JC hil]at hz;rw [JQ hz]
 rw [ed,Ji]at i2;rw [zae (by omega)];unfold once1 at i2;refine⟨λc1=>⟨(i+1,u),rfl,drp,⟨by simp only;omega,?_⟩,by simp only;omega⟩,λc1=>⟨λc2=>⟨(i+1,u),rfl,drp,⟨by simp only;omega,?_⟩,by simp only;omega⟩,λc2=>⟨λc3=> ?_,λc3=>⟨(i+1,z.step.status != 0),rfl,drp,⟨by simp only;omega,?_⟩,by simp only;omega⟩⟩⟩⟩
 ·rw [if_neg (λhh=>c1 hh.1)]at i2;exact i2
 ·rw [if_neg (λhh=>c2 hh.2)]at i2;exact i2
 ·exfalso;rw [if_pos ⟨c1,c2⟩,c3]at i2
  have:=zhy id (L.drop (i+1)) (z.step.status != 0)
  simp only [Bool.not_true,Bool.and_false]at i2;unfold once1 at this;rw [this]at i2;cases i2
 ·rw [if_pos ⟨c1,c2⟩,c3]at i2;exact i2))
theorem c15t {ch:Chunk} {put:Chunk→St} (r:Row 101 12 a n c encEv L ch) (at_:ChAt cs ch put) (hn:n≤4000000000000) (h7:Behind 7 (λx=>x.kind≠2) L) (h9:Behind 9 (λx=>x.kind=1∨x.kind=3) L) (h:K (.bool true) cs):fn 15 [.slice a n c] K cs:=up0 (f15 (by
 unfold s15;have hl:=r.len;have out:0≤fstP (isK 9) L→fstP isOut (L.drop (w64 (fstP (isK 9) L+1)).toNat)= -1:=λh0=>by
  obtain⟨x,v,b,e1,e2,e3,e4⟩:=zqk h0;refine zv3 λy hy=> ?_;have hx:x.length<L.length:=by rw [e1];simp
  rw [e4,zae (by omega),JE,e1,←Qf,List.drop_left,List.drop_one,List.tail_cons]at hy;unfold isOut;rcases zpi h9 x v b e1 (by unfold isK at e2;simpa using e2) y hy with hk | hk <;>simp [hk]
 have tl:0≤fstP (isK 9) L→∀{a2:Option Addr} {n2 c2:Nat},n2≤n→Row 101 12 a2 n2 c2 encEv (L.drop (w64 (fstP (isK 9) L+1)).toNat) ch→fn 45 [.slice a2 n2 c2,.func (.func 44) ⟨[]⟩ ⟨[]⟩] (λv=>unB v λb=>Up K (.bool !b)) cs:=λh0 a2 n2 c2 hn2 r2=>f45 (by
  have r2:=r2;unfold s45;refine c110t (L:=L.drop (w64 (fstP (isK 9) L+1)).toNat) (p:=isOut) inferInstance (λy K h=>go (c44t h)) (by omega) ?_;change unI .i64 (.int .i64 (fstP isOut (L.drop (w64 (fstP (isK 9) L+1)).toNat))) _ _;rw [out h0];exact go (fin h))
 have fl:∀(p:EvM→Bool),fstP p L<L.length:=λp=>by
  unfold fstP;split <;>omega
 have f9:=fl (isK 9);have f7:=fl (isK 7);refine go ⟨by omega,by omega,?_⟩;refine goj ?_;simp only [JD,JB];have w9:0≤fstP (isK 9) L→w64 (fstP (isK 9) L+1)=fstP (isK 9) L+1:=λ_=>zad (by omega);refine⟨λc7=>⟨⟨c7,by omega⟩,λx rx=> ?_⟩,λ_=>⟨λ_=>fin h,λc9=>⟨⟨by have:=w9 (by omega);omega,by have:=w9 (by omega);omega⟩,λx rx=>tl (by omega) (by omega) rx⟩⟩⟩;have rx:=rx;have e2:fstP (isK 2) (L.drop (fstP (isK 7) L).toNat)= -1:=by
  obtain⟨x,v,b,e1,e2,e3,e4⟩:=zqk c7;unfold isK at e2;rw [Jd]at e2;rw [e4,JE,e1,List.drop_left];refine zv3 λy hy=> ?_;unfold isK;rw [JL];rcases Jp.1 hy with rfl | hy
  ·omega
  ·exact zpi h7 x v b e1 e2 y hy
 refine go ⟨by omega,?_⟩;rw [e2];simp only [JD,JB];refine⟨λhh=>absurd hh (by decide),λ_=>⟨λ_=>fin h,λc9=>⟨⟨by have:=w9 (by omega);omega,by have:=w9 (by omega);omega⟩,λx rx=>tl (by omega) (by omega) rx⟩⟩⟩))
instance fdEvT:FdI encEv 3 .i64 EvM.tick:=⟨λ_=>rfl⟩
theorem c115t (r:Rw 101 12 cs a n c encEv L) (hn:n≤4000000000000) (h0:K (.tuple ⟨[.int .i64 0,.bool false]⟩) cs) (h1:∀t,zeo t L→K (.tuple ⟨[.int .i64 t,.bool true]⟩) cs):fn 115 [.slice a n c] K cs:=f115 (by
 unfold s115;have r:=r;have hl:=r.h.len;refine go ⟨hn,?_⟩;simp only [JD,JB];refine⟨λ_=>h0,λc7=> ?_⟩;obtain⟨x,v,b,e1,e2,e3,e4⟩:=zqk (p:=isK 7) (L:=L) (by omega);have hx:L[x.length]? =some v:=by rw [e1];simp
 have hlt:=zaa hx;unfold isK at e2;rw [Jd]at e2;rw [e4];refine go ⟨⟨by omega,by omega⟩,λz hz=> ?_⟩;rw [JE,hx]at hz;cases hz;exact h1 _ ⟨x,v,b,e1,e2,rfl,zyc e3⟩)
theorem c46t {su:Setup} {e:Int} (r:Rw 101 12 cs a n c encEv L) (hn:n≤4000000000000) (g:good su=true) (he:1≤e∧e≤never) (h0:K (.tuple ⟨[.int .i64 0,.bool false]⟩) cs)
  (h1:∀t,zeo t L→zbe su t e≠never→zbe su t e≤L.foldl from1 0→K (.tuple ⟨[.int .i64 (zbe su t e),.bool true]⟩) cs):fn 46 [.agg ⟨suC su⟩,.slice a n c,.int .i64 e] K cs:=up0 (f46 (by
 unfold s46;have r:=r;refine go λb1=> ?_;refine c115t (L:=L) inferInstance hn (goj ⟨λ_=>fin h0,λe=>absurd e (by decide)⟩) λt ht=> ?_;refine goj ⟨λe=>absurd e (by decide),λ_=>⟨λe=>absurd e (by rw [g];decide),λ_=>⟨λe=>absurd e (by simp only [JD];omega),λ_=> ?_⟩⟩⟩;refine c116t g he.2 ?_;refine go ?_;simp only [JD,JB,Jd,JL];exact⟨λ_=>fin h0,λc1=>⟨hn,λ_=>fin h0,λc2=>fin (h1 t ht c1 (by omega))⟩⟩))
theorem c17t {su:Setup} {e:Int} (r:Rw 101 12 cs a n c encEv L) (hn:n≤4000000000000) (g:good su=true) (he:1≤e∧e≤never)
  (hs:∀t,zeo t L→zbe su t e≠never→zbe su t e≤L.foldl from1 0→StopB (zbe su t e) L) (h:K (.bool true) cs):fn 17 [.agg ⟨suC su⟩,.slice a n c,.int .i64 e] K cs:=up0 (f17 (by
 unfold s17;have r:=r;have hl:=r.h.len;refine go λb1=> ?_;refine c46t (L:=L) inferInstance hn g he (go ⟨λ_=>fin h,λe=>absurd e (by decide)⟩) λt ht c1 c2=> ?_;refine go ⟨λe=>absurd e (by decide),λ_=> ?_⟩;obtain⟨x,v,b,e1,e2,e3,e4⟩:=hs t ht c1 c2;generalize zbe su t e=B at *;refine lp (λy:Nat×Int×Bool=>[.int .i64 y.2.1,.bool y.2.2,.int .i64 y.1]) (λ_=>bk b1 23 (suC su)::cs) (λy=>y.1≤x.length∧(x.drop y.1).foldl from1 y.2.1=x.foldl from1 0∧(y.2.2=true∨hasK 1 (x.drop y.1))) (λy=>n-y.1) (0,0,false) rfl (Imp.refl _) ⟨JJ _,by rw [Jm],.inr (by rw [Jm];exact e3)⟩ ?_;rintro⟨i,u,w⟩ ⟨i1,i2,i3⟩;have hxl:x.length<L.length:=by rw [e1];simp
 dsimp only at *;refine go ?_;simp only [JD,JB,JE,Jd,JL];refine⟨λc0=>⟨by omega,λz hz b2=> ?_⟩,λc0=>absurd c0 (by omega)⟩;rw [zae (by omega)];by_cases hx:i<x.length
 ·have hz2:x[i]? =some z:=by rw [e1,JY hx]at hz;exact hz
  have ed:x.drop i=z::x.drop (i+1):=by
   rw [JM hx];rw [JC hx]at hz2;rw [JQ hz2]
  rw [ed,Ji]at i2;rw [ed]at i3;have i4:z.kind≠1→w=true∨hasK 1 (x.drop (i+1)):=λhk=>by
   rcases i3 with i3 | ⟨q,hq,hk'⟩
   ·exact .inl i3
   ·rcases Jp.1 hq with rfl | hq
    ·exact absurd hk' hk
    ·exact .inr ⟨q,hq,hk'⟩
  refine⟨λk1=>⟨(i+1,z.tick,true),rfl,drp,⟨by simp only;omega,?_,.inl rfl⟩,by simp only;omega⟩,λk1=> ?_⟩
  ·rw [←i2];simp only [from1,if_pos k1]
  have i5:(x.drop (i+1)).foldl from1 u=x.foldl from1 0:=by rw [←i2];simp only [from1,if_neg k1]
  have i6:=i4 k1;refine⟨λk9=>⟨λw1=>⟨λ_=>fin h,λ_=> ?_⟩,λw1=> ?_⟩,λk9=> ?_⟩
  all_goals exact⟨(i+1,u,w),rfl,drp,⟨by simp only;omega,i5,i6⟩,by simp only;omega⟩
 ·have ei:i=x.length:=by omega
  subst ei;have hz2:z=v:=by rw [e1]at hz;simpa using hz.symm
  subst hz2;rw [QU,QT]at i2;rw [QU]at i3;have hw:w=true:=by
   rcases i3 with i3 | ⟨q,hq,_⟩
   ·exact i3
   ·cases hq
  refine⟨λk1=>absurd k1 (by omega),λ_=>⟨λ_=>⟨λ_=>⟨λ_=>fin h,λc4=>absurd c4 (by omega)⟩,λc3=>absurd hw (by simp [c3])⟩,λk9=>absurd e2 k9⟩⟩))
instance fdStT:FdI encSt 0 .i64 StepM.tick:=⟨λ_=>rfl⟩
theorem c16t {su:Setup} {e:Int} {ch:Chunk} {put:Chunk→St} (r:Row 101 12 a n c encEv L ch) (at_:ChAt cs ch put) (hn:n≤999999999990) (hb:evSum L≤9000000000000000000) (g:good su=true) (he:1≤e∧e≤never)
  (hs:∀t,zeo t L→zbe su t e≠never→zbe su t e≤L.foldl from1 0→∀id f,zam L id=some f→f.status≠0∧∃s,f.steps.getLast? =some s∧s.tick<zbe su t e) (h:K (.slice none 0 0) cs):fn 16 [.agg ⟨suC su⟩,.slice a n c,.int .i64 e] K cs:=up0 (f16 (by
 unfold s16;have r:=r;have at_:=at_;have hl:=r.len;refine go λb1=> ?_;refine c46t (L:=L) inferInstance (by omega) g he (go ⟨λ_=>fin h,λe=>absurd e (by decide)⟩) λt ht c1 c2=> ?_;have hs:=hs t ht c1 c2;have h7:0≤fstP (isK 7) L:=by
  obtain⟨x,v,b,e1,e2,_⟩:=ht;unfold fstP;rw [if_pos]
  ·omega
  ·exact List.findIdx_lt_length_of_exists ⟨v,by rw [e1];simp,by unfold isK;simp [e2]⟩
 have f7:fstP (isK 7) L<L.length:=by
  unfold fstP at h7 ⊢;split <;>omega
 generalize zbe su t e=B at *;refine go ⟨λe=>absurd e (by decide),λ_=>⟨by omega,⟨h7,by omega⟩,λrt=> ?_⟩⟩;have rt:=rt;refine c11t (L:=L.take (fstP (isK 7) L).toNat) inferInstance (by omega) λia inn ic ich ids hid hopen hin=> ?_;have hid:=hid;have hil:=hid.len;refine go ?_;refine lp (λi:Nat=>[.slice none 0 0,.int .i64 i]) (λ_=>ich::bk b1 23 (suC su)::cs) (λi=>i≤inn) (λi=>inn-i) 0 rfl (Imp.refl _) (JJ _) λi hi=> ?_;refine go ?_;simp only [JD,JB,JE];refine⟨λc0=>⟨by omega,λid hidm=> ?_⟩,λc0=>fin h⟩;have hid2:id∈ids:=JN hidm;have hop:zam L id≠none:=by
  obtain⟨x,hx,k1,k2⟩:=hopen id hid2;exact zp6 ⟨x,List.mem_of_mem_take hx,k1,k2⟩
 refine c12t (L:=L) r inferInstance hn hb (λhno=>absurd hno hop) λf hfm=> ?_;obtain⟨g1,s,g2,g3⟩:=hs id f.m hfm;have gl:f.m.steps≠[]:=λe=>by rw [e]at g2;cases g2
 have gn:=List.length_pos_iff.2 gl;have sr:=f.sr;have sl:=sr.len;refine go λb2=> ?_;simp only [JD,JB,Jd,JL];have sb:=zte hfm;have ew:w64 ((f.m.steps.length:Int)-1)=((f.m.steps.length-1:Nat):Int):=by rw [zad (by omega)];omega
 rw [ew];refine⟨λe=>absurd e g1,λ_=>⟨λe=>absurd e (by omega),λ_=>⟨⟨by omega,by omega⟩,λx hx=>⟨λe=> ?_,λ_=>⟨i+1,by rw [zae (by omega)],drp,by omega,by omega⟩⟩⟩⟩⟩;rw [JE]at hx;rw [List.getLast?_eq_getElem?,hx]at g2;cases g2;omega))
end
section
variable {cs:St} {K:Value→SP}
theorem c4t {su:Setup} {src:ByteArray} {sa ra:Option Addr} {sn sc rn rc:Nat} {ps0:List PrM} {A:Chunk} {R:List RoV} (g:Glob cs) (rs:PrsR cs sa sn sc ps0) (hf:∀p∈ps0,p.Fit) (hn:sn≤1000000000)
  (v:Vie 73 6 ra rn rc encRo R A) (hR:∀y∈R,y.Ok A) (q:In cs A) (hrn:rn≤1000000000) (hs:roSum R≤1000000000000)
  (hb:((R.map RoV.m).map rBulk).sum≤1000000000) (hr:((R.map RoV.m).map λr=>r.reports.length).sum≤4000000)
  (h:K (.bool true) cs):fn 4 [.agg ⟨zfy su src sa sn sc ra rn rc⟩] K cs:=up0 (f4 (by
 unfold s4;refine go λb1=> ?_;refine c9t (A:=A) inferInstance (rs.sub λx hx=>by simp only [JV,JX];exact .inr hx) hf hn v hR inferInstance hrn hs (λgd ps hfp hlp=>(zrk gd hfp hlp hb hr).1) (λa n c t1 t2 t3=> ?_) (λgd a n c ch P ps rp hfp hnp hn64 oa on oc och t2 ro=> ?_)
 ·refine go λb2=>⟨λ_=> ?_,λe=>absurd e (by decide)⟩;refine c10t ?_;exact go (fin h)
 ·obtain⟨ho1,ho2⟩:=zrk gd hfp (by omega) hb hr;have dr:=drains (rs:=R.map RoV.m) gd hfp (by omega);have he1:=znk (FairM.run su ps (R.map RoV.m)).out;have he2:zbj (FairM.run su ps (R.map RoV.m)).out≤never:=zjd _ _ (by decide);generalize w64 ((FairM.run su ps (R.map RoV.m)).wm+1)=t3;generalize (FairM.run su ps (R.map RoV.m)).out=L at *;have hon:=ro.len;have ro:=ro;refine go λb2=>⟨λe=>absurd e (by decide),λ_=> ?_⟩;refine c11t inferInstance (by omega) λia inn ic ich ids hid hopen hin=> ?_;have hid:=hid;have hil:=hid.len;refine go ?_;refine lp (λi:Nat=>[.int .i64 i]) (λ_=>ich::bk b2 29 [.int .i64 (zbj L),.int .i64 t2,.int .i64 t3]::och::ch::P::bk b1 27 (zfy su src sa sn sc ra rn rc)::cs) (λi=>i≤inn) (λi=>inn-i) 0 rfl (Imp.refl _) (JJ _) λi hi=> ?_;refine go ⟨λc0=>⟨⟨by omega,by simpa using c0⟩,λid hidm=> ?_⟩,λc0=> ?_⟩
  ·have hlt:i<inn:=by simpa using c0
   refine c14t (L:=L) inferInstance (by omega) (dr.once id) ?_;exact go ⟨λe=>absurd e (by decide),λ_=>⟨i+1,by rw [zae (by omega)],Imp.refl _,by omega,by omega⟩⟩
  ·refine c15t ro inferInstance (by omega) dr.b7 dr.b9 ?_;refine go ?_;refine c16t ro inferInstance (by omega) ho2 gd ⟨he1,he2⟩ (λt ht k1 k2=>(dr.late t ht k1 k2).1) ?_;refine go ⟨λ_=> ?_,λe=>absurd e (by decide)⟩;refine c17t (L:=L) inferInstance (by omega) gd ⟨he1,he2⟩ (λt ht k1 k2=>(dr.late t ht k1 k2).2) ?_;refine go ?_;exact c10t (go (fin h))))
end
end Go.Proofs.YtbjlfobjngogkaaGreatDoor
namespace Go.Proofs.YtbjlfobjngogkaaGreatDoor
open Go Go.RowKit Go.ChangeShapes Go.WideShapes Go.ChangeAt
set_option maxRecDepth 100000
def zt2 {H:Type}:DataW H:= .agg [.agg [.lit (.int .i64 0),.lit (.int .i64 0),.lit (.int .i64 0),.lit (.int .i64 0),.lit (.int .i64 0),.lit (.int .i64 0)],.lit (.string []),.nil,.nil]
theorem walk4 (W:World) (cells:List Value) (h:StageR (wA W) cells) (g:Glob [wA W]):fn 4 [.agg ⟨cells⟩] (λv cs=>v= .bool true∧cs=[wA W]) [wA W]:=by
 obtain⟨su,src,sa,sn,sc,ra,rn,rc,ps0,R,rfl,r1,r2,r3,r4,r5,r6,r7,r8,r9⟩:=h.h;exact c4t (A:=wA W) g r1 r2 r3 r4 r5 inferInstance r6 r7 r8 r9 ⟨rfl,rfl⟩
theorem z2u (os:Os) {H:Type} (enc:TypeId×Value→H):∃places,DataW.whole enc Tryz.prog ((zdv os).forCall (λ_ _=>0) ⟨#[],#[zh8],[]⟩).memory Tryz.f4.params.toList Rows.topDrainsAllSpec.vars false #[zh8].toList 8=some ([zt2],[],places):=by
 have hw:(DataW.whole enc Tryz.prog ((zdv os).forCall (λ_ _=>0) ⟨#[],#[zh8],[]⟩).memory Tryz.f4.params.toList Rows.topDrainsAllSpec.vars false #[zh8].toList 8).map (λx=>(x.1,x.2.1))=some ([zt2],[]):=by kernel_rfl
 obtain⟨⟨x1,x2,x3⟩,hx,hx1⟩:=QI.1 hw;simp only [Qm]at hx1;obtain⟨rfl,rfl⟩:=hx1;exact⟨x3,hx⟩
theorem z1v (os:Os) (started:os.Started) (H:Type) (enc:TypeId×Value→H) (F:Stop.Interp):
  ReturnsInHanded {} Tryz.checked os 4 .any ((Rows.OpenSpec.upto Rows.topDrainsAllSpec).preRow enc Tryz.prog Tryz.f4 Rows.topDrainsAllUptoRow.domain false Rows.topDrainsAllUptoRow.laid) (((Rows.OpenSpec.upto Rows.topDrainsAllSpec).at F).post enc Tryz.prog Tryz.f4 false true false false):=by
 obtain⟨places,hx⟩:=z2u os enc;refine returnsInHanded_of_row (C:=Tryz.checked) (s:=Rows.OpenSpec.upto Rows.topDrainsAllSpec) own0 started (by kernel_rfl) Tryz.func4
  (witness_row_atRef (enc:=enc) (C:=Tryz.checked) false (zdv os) #[zh8] rfl (vars0 os) (rest0 os) (by kernel_rfl)
   (OpenSpec.preRow_of_cond 8 hx (by kernel_rfl) (λk hk=>by cases hk;kernel_rfl) (by kernel_rfl) (laid0 os))) ?_
 intro W base args ds gs before hval hW _ hcond _ hL hsh _;have hL1:laidMet Tryz.prog Rows.topDrainsAllUptoRow.laid W:=hL;exact zwq (s:=Rows.topDrainsAllSpec) rfl rfl rfl (λ_ _=>rfl) walk4 hval hW (hcond _ rfl) (z16 hsh hL1 (.tail _ (.tail _ (.tail _ (.head _)))))
end Go.Proofs.YtbjlfobjngogkaaGreatDoor
