/- Part of a proof over this seat: contracts of functions and plain laws, joined by program out of smaller texts. Conditions: those that each theorem states. -/
import Derived.Test.YtbjlfobjngogkaaGreatDoorSab
namespace Go.Proofs.YtbjlfobjngogkaaGreatDoor
open Go
set_option synthInstance.maxSize 100000
set_option synthInstance.maxHeartbeats 1000000
set_option maxRecDepth 100000
class Tab (cs:St) (b:Nat) (l:outParam (List Item)):Prop where
 h:Rd cs b 534 (.int .i64 l.length:: .int .u64 (tRuns l:Nat)::List.map (Value.int .u64) (hasL l l.length))∧l.length≤60
section
variable {cs:St} {b:Nat} {l:List Item}
instance tabB [t:Tab cs b l]:RdB cs b 534 (.int .i64 l.length:: .int .u64 (tRuns l:Nat)::List.map (Value.int .u64) (hasL l l.length)):=⟨t.h.1⟩
instance tabCons {d:Chunk} [t:Tab cs b l]:Tab (d::cs) b l:=⟨t.h.1.cons,t.h.2⟩
instance (priority:=5000) tabLd [t:Tab cs b l] {j:Nat} {K:Int→SP}:Go1 (ldI .u64 396 (ad b (2+j)) K cs) (j<256∧K (tHas l j:Nat) cs):=⟨λ⟨h1,h⟩=>by
 refine qy_rd t.h.1 (v:= .int .u64 (tHas l j:Nat)) ?_ (by kernel_rfl) ⟨_,rfl,h⟩;have e:=ziy l l.length h1;rw [JA,JC (by rw [zeg];exact h1)]at e;rw [Nat.add_comm];have e2:(hasL l l.length)[j]? =some ((tHas l j:Nat):Int):=by
  rw [JC (by rw [zeg];exact h1)];exact congrArg some e
 simp [e2]⟩
theorem zug (l:List Item):tRuns l<2 ^ l.length:=zhg _ _ _
theorem p61 {n:Nat} (h:n≤60):2 ^ (n+1)≤2305843009213693952:=Nat.pow_le_pow_right (j:=61) (by decide) (by omega)
theorem zzz (y:Nat) {r n:Nat} (h:r<2 ^ n):(y&&&r)*2<2 ^ (n+1):=by
 have:y&&&r≤r:=Nat.and_le_right
 rw [Nat.pow_succ];omega
variable {K:Value→SP}
instance c445 [t:Tab cs b l] {x:Nat}:Go1 (fn 445 [.pointer (some (ad b 0)),.int .u64 (x:Int)] K cs) (x<18446744073709551616∧K (.int .u64 (zcg l x:Nat)) cs):=⟨λh=>f445 (by
 obtain⟨hx,h⟩:=h;have h60:=t.h.2;unfold s445;refine go ?_;have hp:=p61 h60;have hpos:0<2 ^ (l.length+1):=Nat.pow_pos (by decide);have e0:IntKind.wrap .u64 (l.length:Int)=(l.length:Int):=za2 (by omega);have e1:(2:Int)*2 ^ l.length=((2 ^ (l.length+1):Nat):Int):=by rw [Nat.pow_succ,Nat.mul_comm];norm_cast
 have e2:IntKind.wrap .u64 ((2 ^ (l.length+1):Nat):Int)=((2 ^ (l.length+1):Nat):Int):=za2 (by omega);have e3:((2 ^ (l.length+1):Nat):Int)-1=((2 ^ (l.length+1)-1:Nat):Int):=by omega
 have e4:IntKind.wrap .u64 ((2 ^ (l.length+1)-1:Nat):Int)=((2 ^ (l.length+1)-1:Nat):Int):=za2 (by omega);rw [e0,JE,Nat.min_eq_left (by omega),e1,e2,e3,e4,uand hx (by omega),Nat.and_two_pow_sub_one_eq_mod];refine⟨by omega,?_⟩;have hrl:=zug l;have hr64:tRuns l<18446744073709551616:=Nat.lt_trans hrl (zd9 (by omega));refine lp (λy:Nat=>[.int .u64 y]) (λ_=>cs) (λy=>y<2 ^ (l.length+1)∧(∀i,y.testBit i=true→cl (tRuns l) x i=true)∧∀i,i≤l.length→x.testBit i=true→y.testBit i=true) (λy=>2 ^ (l.length+1)-y) (x % 2 ^ (l.length+1)) rfl (Imp.refl _)
  ⟨Nat.mod_lt _ hpos,λi hi=> ?_,λi hi h2=> ?_⟩ ?_
 ·rw [Nat.testBit_mod_two_pow,JT]at hi;cases i with
  | zero=>exact hi.2
  | succ i=>rw [cl,hi.2,Bool.true_or]
 ·rw [Nat.testBit_mod_two_pow,h2];simp;omega
 rintro y ⟨i1,i2,i3⟩;dsimp only;have y64:y<18446744073709551616:=by omega
 have hl:=zzz y hrl;refine go ?_;have f1:=uand y64 hr64;have f2:((y&&&tRuns l:Nat):Int)*2=(((y&&&tRuns l)*2:Nat):Int):=by omega
 have f3:IntKind.wrap .u64 (((y&&&tRuns l)*2:Nat):Int)=(((y&&&tRuns l)*2:Nat):Int):=za2 (by omega);rw [f1,f2,f3,uor y64 (by omega)];simp only [Jd,JL,ne_eq];refine⟨λc=> ?_,λc=>⟨y|||((y&&&tRuns l)*2),rfl,Imp.refl _,⟨Nat.or_lt_two_pow i1 hl,λi hi=> ?_,λi h1 h2=> ?_⟩,?_⟩⟩
 ·have e:y=zcg l x:=z3u i1 i2 i3 (by omega);rw [←e]at h;exact h
 ·rw [Nat.testBit_or,Bool.or_eq_true]at hi;rcases hi with hi | hi
  ·exact i2 i hi
  ·cases i with
   | zero=>rw [z0o]at hi;cases hi
   | succ i=>
    rw [zzp,Nat.testBit_and,JT]at hi;rw [cl,i2 i hi.1,hi.2];simp
 ·rw [Nat.testBit_or,i3 i h1 h2,Bool.true_or]
 ·have h5:y≤y|||((y&&&tRuns l)*2):=Nat.left_le_or;have h6:y|||((y&&&tRuns l)*2)<2 ^ (l.length+1):=Nat.or_lt_two_pow i1 hl;omega)⟩
instance c430 [t:Tab cs b l]:Go1 (fn 430 [.pointer (some (ad b 0))] K cs) (K (.int .u64 (zer l:Nat)) cs):=⟨λh=>f430 (by
 unfold s430;exact(c445 (x:=1)).h ⟨by decide,go h⟩)⟩
instance c416 [t:Tab cs b l]:Go1 (fn 416 [.pointer (some (ad b 0))] K cs) (K (.int .u64 (zer l:Nat)) cs):=⟨λh=>f416 (by unfold s416;exact go h)⟩
theorem zqt {l:List Item} (h:l.length≤60) (x:Nat):zcg l x<18446744073709551616:=by
 have:=znp l x;have:=p61 h;omega
theorem z0b (l:List Item) (c:Nat):tHas l c<2 ^ l.length:=zhg _ _ _
instance c471 [t:Tab cs b l] {x c:Nat}:Go1 (fn 471 [.pointer (some (ad b 0)),.int .u64 (x:Int),.int .u8 (c:Int)] K cs) ((x<18446744073709551616∧c<256)∧K (.int .u64 (tStep l x c:Nat)) cs):=⟨λh=>f471 (by
 obtain⟨⟨hx,hc⟩,h⟩:=h;have h60:=t.h.2;have hp:=p61 h60;have hy:=zqt h60 x;have hrl:=zug l;have hr64:tRuns l<18446744073709551616:=Nat.lt_trans hrl (zd9 (by omega));have hh64:tHas l c<18446744073709551616:=Nat.lt_trans (z0b l c) (zd9 (by omega));have hl:=zzz (zcg l x) (z0b l c);unfold s471;refine go ⟨hx,⟨by omega,by omega⟩,by omega,?_⟩;rw [JE];have f1:=uand hy hr64;have f1':=uand hy hh64;have f2:((zcg l x&&&tHas l c:Nat):Int)*2=(((zcg l x&&&tHas l c)*2:Nat):Int):=by omega
 have f3:IntKind.wrap .u64 (((zcg l x&&&tHas l c)*2:Nat):Int)=(((zcg l x&&&tHas l c)*2:Nat):Int):=za2 (by omega);have h5:zcg l x&&&tRuns l≤tRuns l:=Nat.and_le_right;rw [f1,f1',f2,f3,uor (by omega) (by omega)];refine go ⟨Nat.or_lt_two_pow (n:=64) (by omega) (by omega),h⟩)⟩
instance c462 [t:Tab cs b l] {x c:Nat}:Go1 (fn 462 [.pointer (some (ad b 0)),.int .u64 (x:Int),.int .u8 (c:Int)] K cs) ((x<18446744073709551616∧c<256)∧K (.int .u64 (tSeek l x c:Nat)) cs):=⟨λh=>f462 (by
 have h60:=t.h.2;unfold s462;refine go ⟨h.1,?_⟩;have e:=uor (x:=tStep l x c) (y:=zer l) (zqt h60 _) (zqt h60 _);rw [e];exact h.2)⟩
instance c463 [t:Tab cs b l] {x:Nat}:Go1 (fn 463 [.pointer (some (ad b 0)),.int .u64 (x:Int)] K cs) (x<18446744073709551616∧K (.bool (tDone l x)) cs):=⟨λh=>f463 (by
 obtain⟨hx,h⟩:=h;have h60:=t.h.2;unfold s463;refine go ⟨hx,?_⟩;have e0:IntKind.wrap .u64 (l.length:Int)=(l.length:Int):=za2 (by omega);rw [e0,JE,Nat.min_eq_left (by omega)];have hp:(2:Int) ^ l.length=((2 ^ l.length:Nat):Int):=by norm_cast
 have e:((zcg l x:Nat):Int).fdiv (2 ^ l.length)=((zcg l x / 2 ^ l.length:Nat):Int):=by
  rw [hp,Int.fdiv_eq_ediv_of_nonneg _ (Int.natCast_nonneg _)];exact(Int.natCast_ediv _ _).symm
 rw [e,bit1];refine⟨by omega,keq h ?_⟩;congr 1;rw [tDone,Nat.testBit_eq_decide_div_mod_eq,Bool.eq_iff_iff];simp)⟩
end
theorem z0d (s:List UInt8):∀(f:Nat) (out:List Item) (k:Nat) {l:List Item},gGo s f out k= .ok l→(∀x∈out,x.2<2 ^ 256∧(x.1=true→x.2=0))→out.length≤60→(∀x∈l,x.2<2 ^ 256∧(x.1=true→x.2=0))∧l.length≤60
 | 0,out,k,l,h,h1,h2=>by rw [gGo]at h;cases h;exact⟨h1,h2⟩
 | f+1,out,k,l,h,h1,h2=>by
  rw [gGo]at h;split at h
  ·rename_i hk;split at h
   ·cases h
   ·rename_i h60;split at h
    ·cases h
    ·rename_i x n hx;have hi:=ziz (by rw [Jb];omega) hx;refine z0d s f _ _ h (λy hy=> ?_) (by simp;omega);rcases JX.1 hy with hy | hy
     ·exact h1 y hy
     ·simp at hy;subst hy;exact⟨hi.2.2.1,hi.2.2.2⟩
  ·cases h;exact⟨h1,h2⟩
theorem zo3 {s:List UInt8} {l:List Item} (h:zo4 s= .ok l):(∀x∈l,x.2<2 ^ 256∧(x.1=true→x.2=0))∧l.length≤60:=z0d s _ _ _ h (by simp) (by simp)
theorem zqh (s:List UInt8):∀(f:Nat) (out:List Item) (k:Nat) {p:Nat} {e:Int},gGo s f out k= .error (p,e)→e≠0
 | 0,out,k,p,e,h=>by rw [gGo]at h;cases h
 | f+1,out,k,p,e,h=>by
  rw [gGo]at h;split at h
  ·rename_i hk;split at h
   ·cases h;decide
   ·split at h
    ·rename_i n e' he;cases h;exact(ziz (by rw [Jb];omega) he).2
    ·exact zqh s f _ _ h
  ·cases h
section
variable {cs:St} {K:Value→SP}
instance c415 {s:ByteArray}:Go1 (fn 415 [.string s] K cs) (s.size≤1000000000000∧(∀p e,za7 (bl s)= .error (p,e)→K (.tuple ⟨[.pointer none,.int .i64 (p:Nat),.int .i64 e]⟩) cs)∧
  ∀l,za7 (bl s)= .ok l→∀b,K (.tuple ⟨[.pointer (some (ad b 0)),.int .i64 0,.int .i64 0]⟩) (zh7 b l::cs)):=⟨λh=>up0 (f415 (by
 obtain⟨h1,he,hk⟩:=h;unfold s415;refine go ⟨h1,λp e hg=>⟨λc1=> ?_,λc1=> ?_⟩,λl hg a c ch r=>⟨λc1=>(by simp at c1),λ_=> ?_⟩⟩
 ·exact fin (he p e (by simp only [za7,hg]))
 ·exact absurd (by simpa using c1) (zqh _ _ _ _ hg)
 ·have hin:=zo3 hg;refine go ⟨⟨λx hx=>(hin.1 x hx).1,by omega⟩,λg1=> ?_,λg1=> ?_,λg1 b=> ?_⟩
  ·exact fin (he 0 2 (by simp only [za7,hg,g1,if_true]))
  ·exact fin (he 0 9 (by simp only [za7,hg,g1.1,g1.2,Bool.true_eq_false,if_true,if_false]))
  ·exact fin (hk l (by simp only [za7,hg,g1.1,g1.2,Bool.true_eq_false,QA,if_false]) b)))⟩
def zil (s:List UInt8):Value:=match za7 s with
 | .error (p,e)=> .tuple ⟨[.int .i64 (p:Nat),.int .i64 e]⟩
 | .ok _=> .tuple ⟨[.int .i64 0,.int .i64 0]⟩
instance c420 {s:ByteArray}:Go1 (fn 420 [.string s] K cs) (s.size≤1000000000000∧K (zil (bl s)) cs):=⟨λh=>up0 (f420 (by
 unfold s420;refine go ⟨h.1,λp e hp=> ?_,λl hp b=> ?_⟩
 ·have e1:zil (bl s)= .tuple ⟨[.int .i64 (p:Nat),.int .i64 e]⟩:=by simp only [zil,hp]
  rw [e1]at h;exact fin h.2
 ·have e1:zil (bl s)= .tuple ⟨[.int .i64 0,.int .i64 0]⟩:=by simp only [zil,hp]
  rw [e1]at h;exact fin h.2))⟩
end
theorem Row.split {α:Type} {T sz n c:Nat} {a:Option Addr} {e:Enc α sz} {l:List α} {ch:Chunk} (r:Row T sz a n c e l ch) {k:Nat} (hk:k<l.length):
  ∃rb o X Z,a=some (ad rb o)∧o+k*sz=X.length∧ch=bk rb T (X++(e.f l[k]++Z))∧∀y,Row T sz a n c e (l.set k y) (bk rb T (X++(e.f y++Z))):=by
 have hlen:=r.len;rcases r.h.inv with ⟨h1,h2,_⟩ | ⟨b,cap,pre,tail,h1,h2,h3,h4,h5,h6⟩
 ·omega
 ·cases h1;have hsplit:l=l.take k++(l[k]::l.drop (k+1)):=by rw [←JM hk,Jx]
  have e1:l.flatMap e.f=(l.take k).flatMap e.f++(e.f l[k]++(l.drop (k+1)).flatMap e.f):=by
   have:=congrArg (List.flatMap e.f) hsplit
   rw [QM,QO]at this;exact this
  have e3:(pre++(l.take k).flatMap e.f).length=pre.length+k*sz:=by
   rw [JH,e.flat_len,Jh];congr 2;omega
  refine⟨b,pre.length,pre++(l.take k).flatMap e.f,(l.drop (k+1)).flatMap e.f++tail,rfl,e3.symm,by rw [h2,e1];simp,λy=>⟨?_⟩⟩;have e2:(l.set k y).flatMap e.f=(l.take k).flatMap e.f++(e.f y++(l.drop (k+1)).flatMap e.f):=by
   rw [List.set_eq_take_append_cons_drop,if_pos hk];simp
  have hl2:((l.set k y).flatMap e.f).length=(l.flatMap e.f).length:=by rw [e.flat_len,e.flat_len,JK]
  have e5:pre++(l.take k).flatMap e.f++(e.f y++((l.drop (k+1)).flatMap e.f++tail))=pre++(l.set k y).flatMap e.f++tail:=by rw [e2];simp
  rw [e5];exact Sl.mk b n c pre _ tail (by rw [hl2];exact h3) (by rw [hl2];exact h4) h5 h6
instance (priority:=50) naAdd {b o j:Nat}:Na ((ad b o).add j) b (o+j):=⟨by rw [zbd]⟩
instance getApp {X c:List Value} {j:Nat} {v:Value} [i:Get c j v]:Get (X++c) (X.length+j) v:=⟨by rw [Jk (by omega),Nat.add_sub_cancel_left];exact i.h⟩
theorem zmx (X c:List Value) (j:Nat):∀(l:List Value) (c:List Value) (j:Nat),lay (X++c) (X.length+j) l=X++lay c j l
 | [],_,_=>rfl
 | u::l,c,j=>by
  simp only [lay];rw [Qg _ _ (by omega),Nat.add_sub_cancel_left,Nat.add_assoc,zmx X c j l]
instance layApp {X c l c':List Value} {j:Nat} [i:Lay c j l c']:Lay (X++c) (X.length+j) l (X++c'):=⟨by rw [zmx X c j,i.h.1],by have:=i.h.2;simp only [JH];omega⟩
theorem zix:∀(v l r:List Value) (o:Nat),o+v.length≤l.length→lay (l++r) o v=lay l o v++r
 | [],_,_,_,_=>rfl
 | u::v,l,r,o,h=>by
  simp only [lay];simp only [Jw]at h;rw [List.set_append_left _ _ (by omega),zix v _ r _ (by simp;omega)]
instance layL {l r v l':List Value} {o:Nat} [i:Lay l o v l']:Lay (l++r) o v (l'++r):=⟨by rw [zix v l r o i.h.2,i.h.1],by have:=i.h.2;simp only [JH];omega⟩
abbrev Arm:=Nat×List Item×Nat
@[reducible] def encA:Enc Arm 2:=⟨λy=>[.pointer (some (ad y.1 0)),.int .u64 (y.2.2:Nat)],by omega,λ_=>rfl⟩
def tabs (l:List Arm):Chunk:=l.flatMap λy=>zh7 y.1 y.2.1
structure Ar where
 a:Option Addr
 n:Nat
 c:Nat
 l:List Arm
 ch:Chunk
 row:Row 513 2 a n c encA l ch
 fed:Int
 ok:∀y∈l,y.2.1.length≤60∧y.2.2<2 ^ 61
 small:l.length≤8
def Ar.m (x:Ar):Pats:=x.l.map λy=>(y.2.1,y.2.2)
def armsC (b:Nat) (x:Ar):Chunk:=bk b 508 [.slice x.a x.n x.c,.int .i64 x.fed]++(x.ch++tabs x.l)
theorem zzs {l:List Arm} {y:Arm} (hy:y∈l) (h:y.2.1.length≤60) (F:St):Tab (tabs l::F) y.1 y.2.1:=⟨by
 refine⟨(0,0),?_⟩;simp only [JV,JX];exact .inl (List.mem_flatMap.2 ⟨y,hy,by simp [zh7,tabC,bk]⟩),h⟩
theorem zxi {b:Nat} {l:List Item} (h:l.length≤60) (F:St):Tab (zh7 b l::F) b l:=⟨by
 refine⟨(0,0),?_⟩;simp [zh7,tabC,bk],h⟩
theorem zxh (l:List Arm) (y:Arm):tabs (l++[y])=tabs l++zh7 y.1 y.2.1:=by simp [tabs]
theorem zp5 {s:List UInt8} {l:List Item} (h:za7 s= .ok l):l.length≤60:=by
 unfold za7 at h;split at h
 ·cases h
 ·rename_i l' hg;split at h
  ·cases h
  ·split at h
   ·cases h
   ·cases h;exact(zo3 hg).2
theorem zcj {s:List UInt8} {p:Nat} {e:Int} (h:za7 s= .error (p,e)):e≠0:=by
 unfold za7 at h;split at h
 ·rename_i e' hg;cases h;exact zqh _ _ _ _ hg
 ·split at h
  ·cases h;decide
  ·split at h
   ·cases h;decide
   ·cases h
theorem zrc {l:List Item} (h:l.length≤60):zer l<2 ^ 61:=by
 have:=znp l 1;have:=p61 h;unfold zer;omega
def pm (l:List Arm):Pats:=l.map λy=>(y.2.1,y.2.2)
section
variable {cs:St} {K:Value→SP} {a:Option Addr} {n c:Nat} {ps:List ByteArray}
instance c386 [r:Rw 9 1 cs a n c encS ps]:Go1 (fn 386 [.slice a n c] K cs) (((∀s∈ps,s.size≤1000000000000)∧n<1000000000000)∧(∀i e,aNew (ps.map bl)= .error (i,e)→K (.tuple ⟨[.pointer none,.int .i64 (i:Nat),.int .i64 e]⟩) cs)∧
  ∀m,aNew (ps.map bl)= .ok m→∀b x,Ar.m x=m→K (.tuple ⟨[.pointer (some (ad b 0)),.int .i64 0,.int .i64 0]⟩) (armsC b x::cs)):=⟨λh=>up0 (f386 (by
 obtain⟨⟨h1,hn⟩,he,hk⟩:=h;unfold s386;have hlen:=r.h.len;refine go ⟨λc0=> ?_,λc0 b1=> ?_⟩
 ·simp only [gt_iff_lt,JD]at c0;have g:(ps.map bl).length>8:=by rw [JR];omega
  exact fin (he 0 4 (by simp only [aNew,g,if_true]))
 ·simp only [gt_iff_lt,JB]at c0;have g:¬(ps.map bl).length>8:=by rw [JR];omega
  simp only [aNew,g,if_false]at he hk;refine lp (λy:Nat×Option Addr×Nat×Chunk×List Arm=>[.int .i64 y.1]) (λy=>bk b1 508 [.slice y.2.1 y.2.2.2.2.length y.2.2.1,.int .i64 0]::y.2.2.2.1::tabs y.2.2.2.2::cs)
   (λy=>y.1≤n∧Row 513 2 y.2.1 y.2.2.2.2.length y.2.2.1 encA y.2.2.2.2 y.2.2.2.1∧y.2.2.2.2.length=y.1∧(∀z∈y.2.2.2.2,z.2.1.length≤60∧z.2.2<2 ^ 61)∧aGo ((ps.map bl).drop y.1) y.1 (pm y.2.2.2.2)=aGo (ps.map bl) 0 []) (λy=>n-y.1)
   (0,none,0,[],[]) rfl (Imp.of_sub (l:=[]) (by simp [tabs])) ⟨JJ _,⟨Sl.nil⟩,rfl,by simp,rfl⟩ ?_
  rintro⟨i,a',c',ch,l⟩ ⟨i1,i2,i3,i4,i5⟩;dsimp only at *;refine go ?_;simp only [JD,JB,JE,id];refine⟨λc1=> ?_,λc1=> ?_⟩
  ·refine⟨by omega,λs hs=>⟨h1 s (JN hs),?_,?_⟩⟩
   ·have hi:i<ps.length:=by omega
    have hd:(ps.map bl).drop i=bl s::(ps.map bl).drop (i+1):=by
     rw [JM (by rw [JR];exact hi),Qe];rw [JC hi]at hs;rw [JQ hs]
    rw [hd]at i5;intro p e hp;refine⟨λc2=> ?_,λc2=>absurd (by simpa using c2) (zcj hp)⟩;simp only [aGo,hp]at i5;exact fin (he i e i5.symm)
   ·have hi:i<ps.length:=by omega
    have hd:(ps.map bl).drop i=bl s::(ps.map bl).drop (i+1):=by
     rw [JM (by rw [JR];exact hi),Qe];rw [JC hi]at hs;rw [JQ hs]
    rw [hd]at i5;intro q hq tb;have hq60:=zp5 hq;refine⟨λc2=>(by simp at c2),λ_=> ?_⟩;have ht:=λX:St=>zxi (b:=tb) hq60 X;simp only [aGo,hq]at i5;refine go ⟨by decide,λrb=>⟨⟨by omega,by omega⟩,(tb,q,zer q),rfl,λa2 c2 ch2 r2=> ?_⟩⟩;refine⟨(i+1,a2,c2,ch2,l++[(tb,q,zer q)]),?_,?_,⟨by omega,?_,by simp [i3],λz hz=> ?_,?_⟩,by omega⟩
    ·rw [zad (by omega)];simp
    ·simp only [zxh,JH,JP];exact drp
    ·simpa using r2
    ·rcases JX.1 hz with hz | hz
     ·exact i4 z hz
     ·simp at hz;subst hz;exact⟨hq60,zrc hq60⟩
    ·simpa [pm]using i5
  ·have e:i=n:=by omega
   subst e;have hd:(ps.map bl).drop i=[]:=Je (by rw [JR];omega);rw [hd,aGo]at i5;have hh:=hk _ i5.symm b1 ⟨a',l.length,c',l,ch,i2,0,i4,by omega⟩ rfl;simp only [armsC]at hh;exact fin hh))⟩
end
def feedA (k:Nat) (y:Arm):Arm:=(y.1,y.2.1,tSeek y.2.1 y.2.2 k)
def doneA (y:Arm):Bool:=tDone y.2.1 y.2.2
theorem ztz (k:Nat) (l:List Arm):tabs (l.map (feedA k))=tabs l:=by simp [tabs,feedA,List.flatMap_map]
def zls:Option Nat→Value
 | none=> .tuple ⟨[.int .i64 0,.bool false]⟩
 | some i=> .tuple ⟨[.int .i64 (i:Nat),.bool true]⟩
theorem zu1 (k:Nat) (l:List Arm):pm (l.map (feedA k))=aFeed (pm l) k:=by simp [pm,aFeed,feedA]
theorem zyp (l:List Arm):zfa (pm l)=l.findIdx? doneA:=by
 simp only [zfa,pm,List.findIdx?_map];rfl
section
variable {cs:St} {b:Nat} {x:Ar} {put:Chunk→St} {K:Value→SP}
instance c448 [o:Ob armsC cs b x put] {k:Nat}:Go1 (fn 448 [.pointer (some (ad b 0)),.int .u8 (k:Int)] K cs) (k<256∧∀x',Ar.m x'=aFeed x.m k→K (zls (zfa (aFeed x.m k))) (put (armsC b x'))):=⟨λh=>
 o.fn3 (bk b 508 [.slice x.a x.n x.c,.int .i64 x.fed]) x.ch (tabs x.l) rfl λF=>f448 (by
 obtain⟨hk,h⟩:=h;unfold s448;have hlen:=x.row.len;have hsm:=x.small;refine go ?_;refine lp (λy:Nat×Chunk=>[.int .i64 ((((x.l.take y.1).map (feedA k)).findIdx? doneA).getD 0:Nat),.bool (((x.l.take y.1).map (feedA k)).findIdx? doneA).isSome,.int .i64 y.1])
  (λy=>bk b 508 [.slice x.a x.n x.c,.int .i64 (w64 (x.fed+1))]::y.2::tabs x.l::F)
  (λy=>y.1≤x.n∧Row 513 2 x.a x.n x.c encA ((x.l.take y.1).map (feedA k)++x.l.drop y.1) y.2) (λy=>x.n-y.1) (0,x.ch) rfl drp ⟨JJ _,by simpa using x.row⟩ ?_
 rintro⟨i,ch⟩ ⟨i1,r⟩;dsimp only at *;refine go ?_;simp only [JD,JB];refine⟨λc0=> ?_,λc0=> ?_⟩
 ·have hi:i<x.l.length:=by omega
  have hll:i<((x.l.take i).map (feedA k)++x.l.drop i).length:=by simp;omega
  obtain⟨rb,o',X,Z,ha,ho,hch,hrow⟩:=r.split hll;have hy:((x.l.take i).map (feedA k)++x.l.drop i)[i]=x.l[i]:=by
   rw [List.getElem_append_right (by simp;omega)];simp only [JR,Jh,List.getElem_drop];congr 1;omega
  rw [hy]at hch;subst hch;rw [ha];refine ix_at (by omega) (by omega) ?_ (zew (T:=513) (sz:=2) (bytes:=16) inferInstance);rw [JE,ho];have hok:=x.ok x.l[i] (Jq hi);have ht:=λF:St=>zzs (Jq hi) hok.1 F;have h61:(2:Nat) ^ 61<18446744073709551616:=by decide
  have hnx:(x.l.take (i+1)).map (feedA k)=(x.l.take i).map (feedA k)++[feedA k x.l[i]]:=by rw [JZ hi,QL];rfl
  have hrow2:Row 513 2 x.a x.n x.c encA ((x.l.take (i+1)).map (feedA k)++x.l.drop (i+1)) (bk rb 513 (X++(encA.f (feedA k x.l[i])++Z))):=by
   have:=hrow (feedA k x.l[i])
   have e:((x.l.take i).map (feedA k)++x.l.drop i).set i (feedA k x.l[i])=(x.l.take (i+1)).map (feedA k)++x.l.drop (i+1):=by
    rw [hnx,Qg _ _ (by rw [JR,Jh];omega)];have e1:i-((x.l.take i).map (feedA k)).length=0:=by rw [JR,Jh];omega
    rw [e1,JM hi,List.set_cons_zero,JO,List.singleton_append]
   rw [e]at this;exact this
  rw [ha]at hrow2;have hfi:((x.l.take (i+1)).map (feedA k)).findIdx? doneA=match ((x.l.take i).map (feedA k)).findIdx? doneA with
    | some j=>some j
    | none=>if tDone x.l[i].2.1 (tSeek x.l[i].2.1 x.l[i].2.2 k)=true then some i else none:=by
   have hl3:((x.l.take i).map (feedA k)).length=i:=by rw [JR,Jh];omega
   rw [hnx,List.findIdx?_append,hl3];cases((x.l.take i).map (feedA k)).findIdx? doneA with
   | some j=>rfl
   | none=>
    rw [List.findIdx?_singleton];show Option.map (λj=>j+i) (if tDone x.l[i].2.1 (tSeek x.l[i].2.1 x.l[i].2.2 k)=true then some 0 else none)=_;split <;>simp
  have w1:w64 ((i:Int)+1)=((i+1:Nat):Int):=by rw [zad (by omega)];rfl
  have hsk:=zq7 x.l[i].2.1 x.l[i].2.2 k;have hp:=p61 hok.1;rw [w1];refine go ⟨⟨by omega,hk⟩,λc1=>⟨by omega,λc2=> ?_,λc2=> ?_⟩,λc1=> ?_⟩
  all_goals refine⟨(i+1,bk rb 513 (X++(encA.f (feedA k x.l[i])++Z))),?_,Imp.refl _,⟨by omega,hrow2⟩,by simp only;omega⟩
  all_goals dsimp only
  all_goals rw [hfi]
  ·cases hf:((x.l.take i).map (feedA k)).findIdx? doneA with
   | some j=>rw [hf]at c1;simp at c1
   | none=>simp [c2]
  ·cases hf:((x.l.take i).map (feedA k)).findIdx? doneA with
   | some j=>rfl
   | none=>simp [c2]
  ·cases hf:((x.l.take i).map (feedA k)).findIdx? doneA with
   | some j=>rfl
   | none=>rw [hf]at c1;simp at c1
 ·have e:i=x.l.length:=by omega
  subst e;rw [QS,QU,Jj]at r;have hok:∀y∈x.l.map (feedA k),y.2.1.length≤60∧y.2.2<2 ^ 61:=by
   intro y hy;obtain⟨z,hz,rfl⟩:=Jt.1 hy;have h1:=(x.ok z hz).1;have h2:=zq7 z.2.1 z.2.2 k;have h3:=p61 h1;exact⟨h1,by simp only [feedA];omega⟩
  have hh:=h ⟨x.a,x.n,x.c,x.l.map (feedA k),ch,r,w64 (x.fed+1),hok,by rw [JR];exact hsm⟩ (zu1 k x.l);have hfo:zfa (aFeed x.m k)=(x.l.map (feedA k)).findIdx? doneA:=by
   show zfa (aFeed (pm x.l) k)=_;rw [←zu1,zyp]
  rw [hfo]at hh;rw [QS];simp only [armsC,ztz]at hh;refine⟨_,_,_,Imp.refl _,?_⟩;refine keq hh ?_;cases(x.l.map (feedA k)).findIdx? doneA <;>rfl)⟩
end
def zf3 (y:Arm):Arm:=(y.1,y.2.1,zer y.2.1)
theorem zsr (l:List Arm):tabs (l.map zf3)=tabs l:=by simp [tabs,zf3,List.flatMap_map]
section
variable {cs:St} {K:Value→SP}
theorem c464 {b n c:Nat} {a:Option Addr} {fed:Int} {l:List Arm} [q:RdB cs b 508 [.slice a n c,.int .i64 fed]] [r:Rw 513 2 cs a n c encA l] (ht:∀y∈l,Tab cs y.1 y.2.1) (hsm:l.length≤8)
  (h:∀b' a' c' ch',Row 513 2 a' n c' encA (l.map zf3) ch'→K (.pointer (some (ad b' 0))) (bk b' 508 [.slice a' n c',.int .i64 0]::ch'::cs)):fn 464 [.pointer (some (ad b 0))] K cs:=up0 (f464 (by
 unfold s464;have hlen:=r.h.len;refine go λb1=> ?_;refine lp (λy:Nat×Option Addr×Nat×Chunk=>[.int .i64 y.1]) (λy=>bk b1 508 [.slice y.2.1 y.1 y.2.2.1,.int .i64 0]::y.2.2.2::cs)
  (λy=>y.1≤n∧Row 513 2 y.2.1 y.1 y.2.2.1 encA ((l.take y.1).map zf3) y.2.2.2) (λy=>n-y.1) (0,none,0,[]) rfl drp ⟨JJ _,⟨Sl.nil⟩⟩ ?_
 rintro⟨i,a',c',ch⟩ ⟨i1,r1⟩;dsimp only at *;refine go ?_;simp only [JD,JB,JE];refine⟨λc0=>⟨by omega,λx hx b2=> ?_⟩,λc0=> ?_⟩
 ·have hi:i<l.length:=by omega
  have htx:=ht x (JN hx);have w1:w64 ((i:Int)+1)=((i+1:Nat):Int):=by rw [zad (by omega)];rfl
  rw [w1];refine go ⟨by decide,λb3=>⟨⟨by omega,by omega⟩,zf3 x,rfl,λa2 c2 ch2 r2=>⟨(i+1,a2,c2,ch2),rfl,drp,⟨by omega,?_⟩,by simp only;omega⟩⟩⟩;have e:(l.take (i+1)).map zf3=(l.take i).map zf3++[zf3 x]:=by
   rw [JZ hi,QL];rw [JC hi]at hx;rw [JQ hx];rfl
  rw [e];exact r2
 ·have e:i=n:=by omega
  subst e;rw [hlen,QS]at r1;rw [←hlen]at r1;exact fin (h b1 a' c' ch r1)))
end
section
variable {cs:St} {b:Nat} {x:Ar} {put:Chunk→St} {K:Value→SP}
instance c449 [o:Ob armsC cs b x put]:Go1 (fn 449 [.pointer (some (ad b 0))] K cs) (∀x',Ar.m x'=zkt x.m→K undef (put (armsC b x'))):=⟨λh=>
 o.fn3 (bk b 508 [.slice x.a x.n x.c,.int .i64 x.fed]) x.ch (tabs x.l) rfl λF=>f449 (by
 unfold s449;have hr:=x.row;refine c464 (l:=x.l) (a:=x.a) (n:=x.n) (c:=x.c) (fed:=x.fed) (λy hy=> ?_) x.small λb' a' c' ch' r'=> ?_
 ·have:=zzs hy (x.ok y hy).1 F
  infer_instance
 ·refine go ?_;have hh:=h ⟨a',x.n,c',x.l.map zf3,ch',r',0,λy hy=> ?_,by rw [JR];exact x.small⟩ ?_
  ·simp only [armsC,zsr]at hh;exact⟨_,_,_,drp,hh⟩
  ·obtain⟨z,hz,rfl⟩:=Jt.1 hy;have h1:=(x.ok z hz).1;exact⟨h1,zrc h1⟩
  ·simp [Ar.m,zkt,zf3])⟩
end
end Go.Proofs.YtbjlfobjngogkaaGreatDoor
namespace Go.Proofs.YtbjlfobjngogkaaGreatDoor
open Go
variable {K:Value→SP} {cs:St}
@[reducible] def s102 (x0:Addr) (K:Value→SP):SP:=
 fn 174 [.pointer (some x0)]<|uB λa=>br (!a) (K (.int .i64 0))<|ldB 4 (x0.add 19) λb=>br (b) (K (.int .i64 0))<|ldP 307 (x0.add 16) λc=>fn 175 [.pointer c]<|uI .i64 λd=>K (.int .i64 d)
theorem f102 {x0:Addr} (h:s102 x0 K cs):fn 102 [.pointer (some x0)] K cs:=fO (an:=⟨[],[]⟩) Tryz.func102 h
@[reducible] def s104 (x0:Addr) (K:Value→SP):SP:=
 ldP 309 (x0.add 18) λa=>fn 176 [.pointer a]<|uS λb=>K (.string b)
theorem f104 {x0:Addr} (h:s104 x0 K cs):fn 104 [.pointer (some x0)] K cs:=fO (an:=⟨[],[]⟩) Tryz.func104 h
@[reducible] def s149 (x0:List Value) (x1:List Value) (x2:Int) (K:Value→SP):SP:=
 box 23 (.agg (.mk x0)) λa=>box 45 (.agg (.mk x1)) λc=>ldA 23 (a) λg=>fn 68 [.agg (.mk g)]<|uB λh=>br (!h) (K (.tuple (Array.mk [.pointer none,.int .i64 1])))<|ldA 45 (c) λi=>fn 118 [.agg (.mk i)]<|uB λj=>br (!j) (K (.tuple (Array.mk [.pointer none,.int .i64 2])))<|ldA 23 (a) λd=>ldA 45 (c) λk=>fn 82 [.agg (.mk k)]<|uA λl=>sB 23 a (.agg (.mk d))<|fn 228 [.int .i64 x2]<|uI .i64 λm=>sB 23 a (.agg (.mk d))<|qy (Instr.build 311 (Array.mk [(0,.agg (.mk d)),(1,.agg (.mk l)),(10,.int .i64 m)]))<|uA λn=>box 311 (.agg (.mk n)) λb=>ldI .i64 2 (b.add 20) λo=>ldI .i64 2 (c.add 1) λp=>fn 229 [.int .i64 o,.int .i64 p]<|uA λq=>st 306 (b.add 13) (.agg (.mk q))<|ldI .i64 3 (a.add 1) λr=>ldI .i64 3 (a.add 2) λf=>ldI .i64 3 (a.add 3) λe=>fn 230 [.int .i64 r]<|uP λs=>sB 3 (a.add 3) (.int .i64 e)<|sB 3 (a.add 2) (.int .i64 f)<|fn 231 [.int .i64 f]<|uP λt=>sB 3 (a.add 3) (.int .i64 e)<|fn 232 [.int .i64 e]<|uP λu=>st 307 (b.add 16) (.pointer s)<|st 308 (b.add 17) (.pointer t)<|st 309 (b.add 18) (.pointer u)<|fn 233 [.pointer (some b),.int .i64 0]<|uT λ_=>K (.tuple (Array.mk [.pointer (some b),.int .i64 0]))
theorem f149 {x0 x1:List Value} {x2:Int} (h:s149 x0 x1 x2 K cs):fn 149 [.agg (.mk x0),.agg (.mk x1),.int .i64 x2] K cs:=fO (an:=⟨[],[]⟩) Tryz.func149 h
@[reducible] def s161 (x0:Addr) (x1:Int) (K:Value→SP):SP:=
 fn 174 [.pointer (some x0)]<|uB λb=>br (b) (ldI .i64 2 (x0.add 20) λa=>fn 246 [.pointer (some x0),.int .i64 (if a>x1 then a else x1)]<|uB λc=>K (.bool c))<|K (.bool false)
theorem f161 {x0:Addr} {x1:Int} (h:s161 x0 x1 K cs):fn 161 [.pointer (some x0),.int .i64 x1] K cs:=fO (an:=⟨[],[]⟩) Tryz.func161 h
@[reducible] def s163 (x0:Addr) (K:Value→SP):SP:=
 fn 174 [.pointer (some x0)]<|uB λe=>br (!e) (K (.int .i64 0))<|ldP 307 (x0.add 16) λf=>fn 248 [.pointer f]<|uI .i64 λg=>fn 249 [.pointer (some x0)]<|uA λh=>new 97 λa=>st 97 (a) (.agg (.mk h))<|Jn (λi=>unI .i64 (i.headD undef) λj=>ldA 23 (x0.add 0) λb=>ldI .i64 3 (a.add 0) λc=>ldP 308 (x0.add 17) λk=>fn 252 [.pointer k]<|uI .i64 λl=>sB 3 (a.add 0) (.int .i64 c)<|sB 23 (x0.add 0) (.agg (.mk b))<|fn 251 [.agg (.mk b),.int .i64 c,.int .i64 l,.int .i64 j]<|uI .i64 λm=>K (.int .i64 m))<|λd=>ldI .i64 3 (a.add 0) λn=>br (n == 1) (ldP 309 (x0.add 18) λo=>fn 250 [.pointer o]<|uI .i64 λp=>d [.int .i64 p])<|d [.int .i64 g]
theorem f163 {x0:Addr} (h:s163 x0 K cs):fn 163 [.pointer (some x0)] K cs:=fO (an:=⟨[],[(7,[(3,.int .i64)])]⟩) Tryz.func163 h
@[reducible] def s167 (x0:Addr) (K:Value→SP):SP:=
 fn 174 [.pointer (some x0)]<|uB λa=>br (!a) (K (.int .i64 9223372036854775807))<|ldA 306 (x0.add 13) λb=>fn 263 [.agg (.mk b)]<|uI .i64 λc=>K (.int .i64 c)
theorem f167 {x0:Addr} (h:s167 x0 K cs):fn 167 [.pointer (some x0)] K cs:=fO (an:=⟨[],[]⟩) Tryz.func167 h
@[reducible] def s174 (x0:Addr) (K:Value→SP):SP:=
 ldI .i64 3 (x0.add 11) λa=>K (.bool (a == 0))
theorem f174 {x0:Addr} (h:s174 x0 K cs):fn 174 [.pointer (some x0)] K cs:=fO (an:=⟨[],[]⟩) Tryz.func174 h
@[reducible] def s233 (x0:Addr) (x1:Int) (K:Value→SP):SP:=
 st 3 (x0.add 10) (.int .i64 x1)<|ldA 306 (x0.add 13) λj=>fn 323 [.agg (.mk j)]<|uA λk=>st 306 (x0.add 13) (.agg (.mk k))<|fn 249 [.pointer (some x0)]<|uA λl=>new 97 λa=>st 97 (a) (.agg (.mk l))<|ldI .i64 3 (a.add 0) λb=>br (b == 1) (ldP 309 (x0.add 18) λm=>ldS 9 (a.add 1) λn=>fn 324 [.pointer m,.string n]<|uT λ_=>K (undef))<|br (b == 2) (ldL 95 (a.add 4) λo d p=>Lp (λq e=>unL (e.headD undef) λf g h=>unI .i64 (e.tail.headD undef) λc=>br (decide (c<(d:Int))) (ix 95 (.slice o d p) (c) λr=>ldA 146 (r) λs=>new 146 λi=>st 146 (i) (.agg (.mk s))<|ldS 9 (i.add 0) λt=>sm (Instr.buildSlice 144 1 (Array.mk [(0,.string t)]))<|uL λu v w=>sm (Builtin.append_ (Array.mk [144,144]) 144 (Array.mk [.slice f g h,.slice u v w]))<|uL λx y z=>q [.slice x y z,.int .i64 (w64 (c+1))])<|ldP 308 (x0.add 17) λA=>fn 325 [.pointer A,.slice f g h]<|uI .i64 λ_=>ldA 306 (x0.add 13) λB=>ldI .i64 2 (x0.add 20) λC=>ldI .i64 2 (a.add 2) λD=>fn 326 [.agg (.mk B),.int .i64 C,.int .i64 D]<|uA λE=>st 306 (x0.add 13) (.agg (.mk E))<|K (undef)) [.slice none 0 0,.int .i64 0])<|br (b == 4) (ldA 306 (x0.add 13) λF=>ldI .i64 2 (x0.add 20) λG=>ldI .i64 2 (a.add 2) λH=>fn 326 [.agg (.mk F),.int .i64 G,.int .i64 H]<|uA λI=>st 306 (x0.add 13) (.agg (.mk I))<|K (undef))<|K (undef)
theorem f233 {x0:Addr} {x1:Int} (h:s233 x0 x1 K cs):fn 233 [.pointer (some x0),.int .i64 x1] K cs:=fO (an:=⟨[(9,[(5,.sl),(38,.int .i64)])],[]⟩) Tryz.func233 h
@[reducible] def s236 (x0:Addr) (x1:Int) (K:Value→SP):SP:=
 fn 174 [.pointer (some x0)]<|uB λa=>br (a) (ldA 306 (x0.add 13) λb=>fn 327 [.agg (.mk b),.int .i64 x1]<|uA λc=>st 306 (x0.add 13) (.agg (.mk c))<|K (undef))<|K (undef)
theorem f236 {x0:Addr} {x1:Int} (h:s236 x0 x1 K cs):fn 236 [.pointer (some x0),.int .i64 x1] K cs:=fO (an:=⟨[],[]⟩) Tryz.func236 h
@[reducible] def s237 (x0:Addr) (x1:ByteArray) (K:Value→SP):SP:=
 fn 174 [.pointer (some x0)]<|uB λa=>br (!a) (K (.int .i64 0))<|ldB 4 (x0.add 19) λb=>br (b) (K (.int .i64 0))<|ldP 307 (x0.add 16) λc=>fn 328 [.pointer c,.string x1]<|uI .i64 λd=>K (.int .i64 d)
theorem f237 {x0:Addr} {x1:ByteArray} (h:s237 x0 x1 K cs):fn 237 [.pointer (some x0),.string x1] K cs:=fO (an:=⟨[],[]⟩) Tryz.func237 h
@[reducible] def s239 (x0:Addr) (K:Value→SP):SP:=
 fn 174 [.pointer (some x0)]<|uB λa=>br (!a) (K (.bool false))<|ldB 4 (x0.add 19) λb=>br (b) (K (.bool false))<|st 4 (x0.add 19) (.bool true)<|K (.bool true)
theorem f239 {x0:Addr} (h:s239 x0 K cs):fn 239 [.pointer (some x0)] K cs:=fO (an:=⟨[],[]⟩) Tryz.func239 h
@[reducible] def s240 (x0:Addr) (x1:Int) (K:Value→SP):SP:=
 fn 174 [.pointer (some x0)]<|uB λa=>br (!a) (K (.string (bs [])))<|ldP 309 (x0.add 18) λb=>fn 329 [.pointer b,.int .i64 x1]<|uS λc=>K (.string c)
theorem f240 {x0:Addr} {x1:Int} (h:s240 x0 x1 K cs):fn 240 [.pointer (some x0),.int .i64 x1] K cs:=fO (an:=⟨[],[]⟩) Tryz.func240 h
@[reducible] def s246 (x0:Addr) (x1:Int) (K:Value→SP):SP:=
 ldA 306 (x0.add 13) λc=>fn 333 [.agg (.mk c),.int .i64 x1]<|uT λb=>gI .i64 b 0 λ_=>gB b 1 λd=>br (d) (K (.bool true))<|fn 249 [.pointer (some x0)]<|uA λe=>qy (Instr.field 97 (.agg (.mk e)) 0)<|uI .i64 λa=>br (a == 1) (ldP 309 (x0.add 18) λf=>fn 334 [.pointer f]<|uI .i64 λg=>K (.bool (g == 0)))<|br (a == 2) (ldP 308 (x0.add 17) λh=>fn 252 [.pointer h]<|uI .i64 λi=>br (decide (i>0)) (K (.bool true))<|ldP 307 (x0.add 16) λj=>fn 248 [.pointer j]<|uI .i64 λk=>br (decide (k>0)) (K (.bool true))<|ldB 4 (x0.add 19) λl=>br (l) (K (.bool true))<|ldA 306 (x0.add 13) λm=>fn 335 [.agg (.mk m),.int .i64 x1]<|uB λn=>K (.bool n))<|br (a == 4) (ldA 306 (x0.add 13) λo=>fn 335 [.agg (.mk o),.int .i64 x1]<|uB λp=>K (.bool p))<|K (.bool true)
theorem f246 {x0:Addr} {x1:Int} (h:s246 x0 x1 K cs):fn 246 [.pointer (some x0),.int .i64 x1] K cs:=fO (an:=⟨[],[]⟩) Tryz.func246 h
@[reducible] def s249 (x0:Addr) (K:Value→SP):SP:=
 new 97 λa=>ldI .i64 3 (x0.add 10) λb=>ldL 43 ((x0.add 6).add 3) λ_ c _=>br (decide (b≥(c:Int))) (st 97 (a) (.agg (.mk [.int .i64 0,.string (bs []),.int .i64 0,.int .i64 0,.slice none 0 0,.int .i64 0,.int .i64 0]))<|qy (loadVar 97 a)<|uA λd=>K (.agg (.mk d)))<|ldL 43 ((x0.add 6).add 3) λe f g=>ldI .i64 3 (x0.add 10) λh=>ix 43 (.slice e f g) (h) λi=>ldA 97 (i) λj=>st 97 (a) (.agg (.mk j))<|qy (loadVar 97 a)<|uA λk=>K (.agg (.mk k))
theorem f249 {x0:Addr} (h:s249 x0 K cs):fn 249 [.pointer (some x0)] K cs:=fO (an:=⟨[],[]⟩) Tryz.func249 h
@[reducible] def s253 (x0:Addr) (x1:Int) (K:Value→SP):SP:=
 new 99 λa=>fn 161 [.pointer (some x0),.int .i64 x1]<|uB λi=>br (!i) (st 99 (a) (.agg (.mk [.int .i64 0,.int .i64 0,.int .i64 0,.int .i64 0,.int .i64 0,.int .i64 0]))<|qy (loadVar 99 a)<|uA λj=>K (.tuple (Array.mk [.agg (.mk j),.bool false])))<|ldI .i64 2 (x0.add 20) λd=>st 2 (x0.add 20) (.int .i64 (if x1>d then x1 else d))<|Jn (λk=>unQ (k.headD undef) λe=>ldI .i64 3 (x0.add 11) λl=>st 3 (e.add 5) (.int .i64 l)<|ldA 99 (e) λm=>st 99 (a) (.agg (.mk m))<|qy (loadVar 99 a)<|uA λn=>K (.tuple (Array.mk [.agg (.mk n),.bool true])))<|λf=>ldI .i64 2 (x0.add 20) λb=>ldI .i64 3 (x0.add 10) λc=>an (fn 337 [.pointer (some x0),.agg (.mk [.int .i64 b,.int .i64 c,.int .i64 0,.int .i64 0,.int .i64 0,.int .i64 0])]<|uA λo=>new 99 λg=>st 99 (g) (.agg (.mk o))<|f [.pointer (some g)])<|new 99 λh=>sB 3 (x0.add 10) (.int .i64 c)<|sB 2 (x0.add 20) (.int .i64 b)<|fn 337 [.pointer (some x0),.agg (.mk [.int .i64 b,.int .i64 c,.int .i64 0,.int .i64 0,.int .i64 0,.int .i64 0])]<|uA λp=>st 99 (h) (.agg (.mk p))<|f [.pointer (some h)]
theorem f253 {x0:Addr} {x1:Int} (h:s253 x0 x1 K cs):fn 253 [.pointer (some x0),.int .i64 x1] K cs:=fO (an:=⟨[],[(5,[(6,.adr)])]⟩) Tryz.func253 h
@[reducible] def s254 (x0:Addr) (K:Value→SP):SP:=
 ldI .i64 3 (x0.add 11) λa=>K (.int .i64 a)
theorem f254 {x0:Addr} (h:s254 x0 K cs):fn 254 [.pointer (some x0)] K cs:=fO (an:=⟨[],[]⟩) Tryz.func254 h
@[reducible] def s337 (x0:Addr) (x1:List Value) (K:Value→SP):SP:=
 box 99 (.agg (.mk x1)) λb=>new 99 λa=>ldA 306 (x0.add 13) λh=>ldI .i64 2 (x0.add 20) λi=>fn 333 [.agg (.mk h),.int .i64 i]<|uT λe=>gI .i64 e 0 λf=>gB e 1 λj=>br (j) (st 3 (b.add 2) (.int .i64 14)<|Jn (λ_=>fn 389 [.pointer (some x0),.int .i64 f]<|uT λ_=>ldA 99 (b) λk=>st 99 (a) (.agg (.mk k))<|qy (loadVar 99 a)<|uA λl=>K (.agg (.mk l)))<|λg=>br (f == 3) (st 3 (b.add 2) (.int .i64 12)<|g [])<|g [])<|fn 249 [.pointer (some x0)]<|uA λm=>new 97 λc=>st 97 (c) (.agg (.mk m))<|ldI .i64 3 (c.add 0) λd=>br (d == 1) (ldA 99 (b) λn=>ldA 97 (c) λo=>fn 390 [.pointer (some x0),.agg (.mk n),.agg (.mk o)]<|uA λp=>st 99 (a) (.agg (.mk p))<|qy (loadVar 99 a)<|uA λq=>K (.agg (.mk q)))<|br (d == 2) (ldA 99 (b) λr=>ldA 97 (c) λs=>fn 391 [.pointer (some x0),.agg (.mk r),.agg (.mk s)]<|uA λt=>st 99 (a) (.agg (.mk t))<|qy (loadVar 99 a)<|uA λu=>K (.agg (.mk u)))<|br (d == 3) (st 3 (b.add 2) (.int .i64 7)<|ldA 99 (b) λv=>ldI .i64 3 (c.add 3) λw=>fn 392 [.pointer (some x0),.agg (.mk v),.int .i64 w]<|uA λx=>st 99 (a) (.agg (.mk x))<|qy (loadVar 99 a)<|uA λy=>K (.agg (.mk y)))<|br (d == 4) (st 3 (b.add 2) (.int .i64 8)<|ldI .i64 3 (x0.add 10) λz=>fn 233 [.pointer (some x0),.int .i64 (w64 (z+1))]<|uT λ_=>ldA 99 (b) λA=>st 99 (a) (.agg (.mk A))<|qy (loadVar 99 a)<|uA λB=>K (.agg (.mk B)))<|br (d == 6) (st 3 (b.add 2) (.int .i64 10)<|fn 389 [.pointer (some x0),.int .i64 2]<|uT λ_=>ldA 99 (b) λC=>st 99 (a) (.agg (.mk C))<|qy (loadVar 99 a)<|uA λD=>K (.agg (.mk D)))<|st 3 (b.add 2) (.int .i64 9)<|fn 389 [.pointer (some x0),.int .i64 1]<|uT λ_=>ldA 99 (b) λE=>st 99 (a) (.agg (.mk E))<|qy (loadVar 99 a)<|uA λF=>K (.agg (.mk F))
theorem f337 {x0:Addr} {x1:List Value} (h:s337 x0 x1 K cs):fn 337 [.pointer (some x0),.agg (.mk x1)] K cs:=fO (an:=⟨[],[(6,[])]⟩) Tryz.func337 h
@[reducible] def s389 (x0:Addr) (x1:Int) (K:Value→SP):SP:=
 st 3 (x0.add 11) (.int .i64 x1)<|ldI .i64 3 ((x0.add 0).add 1) λc=>ldI .i64 3 ((x0.add 0).add 2) λb=>ldI .i64 3 ((x0.add 0).add 3) λa=>fn 230 [.int .i64 c]<|uP λd=>sB 3 ((x0.add 0).add 3) (.int .i64 a)<|sB 3 ((x0.add 0).add 2) (.int .i64 b)<|fn 231 [.int .i64 b]<|uP λe=>sB 3 ((x0.add 0).add 3) (.int .i64 a)<|fn 232 [.int .i64 a]<|uP λf=>st 307 (x0.add 16) (.pointer d)<|st 308 (x0.add 17) (.pointer e)<|st 309 (x0.add 18) (.pointer f)<|K (undef)
theorem f389 {x0:Addr} {x1:Int} (h:s389 x0 x1 K cs):fn 389 [.pointer (some x0),.int .i64 x1] K cs:=fO (an:=⟨[],[]⟩) Tryz.func389 h
@[reducible] def s390 (x0:Addr) (x1:List Value) (x2:List Value) (K:Value→SP):SP:=
 box 99 (.agg (.mk x1)) λa=>box 97 (.agg (.mk x2)) λc=>new 99 λb=>ldP 309 (x0.add 18) λe=>fn 250 [.pointer e]<|uI .i64 λf=>br (decide (f>0)) (ldP 309 (x0.add 18) λg=>fn 417 [.pointer g]<|uI .i64 λh=>st 3 (a.add 2) (.int .i64 5)<|st 3 (a.add 4) (.int .i64 h)<|ldA 99 (a) λi=>st 99 (b) (.agg (.mk i))<|qy (loadVar 99 b)<|uA λj=>K (.agg (.mk j)))<|ldS 9 (c.add 1) λd=>st 3 (a.add 2) (.int .i64 6)<|sB 9 (c.add 1) (.string d)<|st 3 (a.add 4) (.int .i64 (d.size:Int))<|ldI .i64 3 (x0.add 10) λk=>fn 233 [.pointer (some x0),.int .i64 (w64 (k+1))]<|uT λ_=>ldA 99 (a) λl=>st 99 (b) (.agg (.mk l))<|qy (loadVar 99 b)<|uA λm=>K (.agg (.mk m))
theorem f390 {x0:Addr} {x1 x2:List Value} (h:s390 x0 x1 x2 K cs):fn 390 [.pointer (some x0),.agg (.mk x1),.agg (.mk x2)] K cs:=fO (an:=⟨[],[]⟩) Tryz.func390 h
@[reducible] def s391 (x0:Addr) (x1:List Value) (x2:List Value) (K:Value→SP):SP:=
 box 99 (.agg (.mk x1)) λa=>box 97 (.agg (.mk x2)) λd=>new 99 λb=>Jn (λl=>unQ (l.headD undef) λc=>ldI .i64 3 (c.add 4) λm=>st 3 (a.add 4) (.int .i64 m)<|ldB 4 (c.add 0) λn=>br (n) (ldI .i64 3 (c.add 2) λh=>ldI .i64 3 (c.add 3) λe=>st 3 (a.add 2) (.int .i64 2)<|sB 3 (c.add 3) (.int .i64 e)<|sB 3 (c.add 2) (.int .i64 h)<|st 3 (a.add 3) (.int .i64 h)<|sB 3 (c.add 3) (.int .i64 e)<|st 3 (a.add 4) (.int .i64 e)<|ldA 99 (a) λo=>ldL 95 (d.add 4) λp q r=>ldI .i64 3 (c.add 2) λs=>ix 95 (.slice p q r) (s) λt=>ldI .i64 3 (t.add 1) λu=>fn 392 [.pointer (some x0),.agg (.mk o),.int .i64 u]<|uA λv=>st 99 (b) (.agg (.mk v))<|qy (loadVar 99 b)<|uA λw=>K (.agg (.mk w)))<|ldB 4 (c.add 1) λx=>br (x) (st 3 (a.add 2) (.int .i64 13)<|fn 389 [.pointer (some x0),.int .i64 4]<|uT λ_=>ldA 99 (a) λy=>st 99 (b) (.agg (.mk y))<|qy (loadVar 99 b)<|uA λz=>K (.agg (.mk z)))<|ldB 4 (x0.add 19) λA=>br (A) (st 3 (a.add 2) (.int .i64 4)<|ldA 99 (a) λB=>ldI .i64 3 (d.add 6) λC=>fn 392 [.pointer (some x0),.agg (.mk B),.int .i64 C]<|uA λD=>st 99 (b) (.agg (.mk D))<|qy (loadVar 99 b)<|uA λE=>K (.agg (.mk E)))<|ldA 306 (x0.add 13) λF=>ldI .i64 2 (x0.add 20) λG=>fn 335 [.agg (.mk F),.int .i64 G]<|uB λH=>br (H) (st 3 (a.add 2) (.int .i64 3)<|ldA 99 (a) λI=>ldI .i64 3 (d.add 5) λJ=>fn 392 [.pointer (some x0),.agg (.mk I),.int .i64 J]<|uA λL=>st 99 (b) (.agg (.mk L))<|qy (loadVar 99 b)<|uA λM=>K (.agg (.mk M)))<|st 3 (a.add 2) (.int .i64 1)<|ldA 99 (a) λN=>st 99 (b) (.agg (.mk N))<|qy (loadVar 99 b)<|uA λO=>K (.agg (.mk O)))<|λi=>ldP 308 (x0.add 17) λf=>ldP 307 (x0.add 16) λg=>an (fn 418 [.pointer f,.pointer g]<|uA λP=>new 514 λj=>st 514 (j) (.agg (.mk P))<|i [.pointer (some j)])<|new 514 λk=>sB 307 (x0.add 16) (.pointer g)<|sB 308 (x0.add 17) (.pointer f)<|fn 418 [.pointer f,.pointer g]<|uA λQ=>st 514 (k) (.agg (.mk Q))<|i [.pointer (some k)]
theorem f391 {x0:Addr} {x1 x2:List Value} (h:s391 x0 x1 x2 K cs):fn 391 [.pointer (some x0),.agg (.mk x1),.agg (.mk x2)] K cs:=fO (an:=⟨[],[(2,[(7,.adr)])]⟩) Tryz.func391 h
@[reducible] def s392 (x0:Addr) (x1:List Value) (x2:Int) (K:Value→SP):SP:=
 box 99 (.agg (.mk x1)) λb=>new 99 λa=>br (decide (x2<0)) (fn 389 [.pointer (some x0),.int .i64 2]<|uT λ_=>ldA 99 (b) λc=>st 99 (a) (.agg (.mk c))<|qy (loadVar 99 a)<|uA λd=>K (.agg (.mk d)))<|ldI .i64 3 (x0.add 12) λe=>ldI .i64 3 ((x0.add 6).add 2) λf=>br (decide (e≥f)) (st 3 (b.add 2) (.int .i64 11)<|fn 389 [.pointer (some x0),.int .i64 2]<|uT λ_=>ldA 99 (b) λg=>st 99 (a) (.agg (.mk g))<|qy (loadVar 99 a)<|uA λh=>K (.agg (.mk h)))<|ldI .i64 3 (x0.add 12) λi=>st 3 (x0.add 12) (.int .i64 (w64 (i+1)))<|fn 233 [.pointer (some x0),.int .i64 x2]<|uT λ_=>ldA 99 (b) λj=>st 99 (a) (.agg (.mk j))<|qy (loadVar 99 a)<|uA λk=>K (.agg (.mk k))
theorem f392 {x0:Addr} {x1:List Value} {x2:Int} (h:s392 x0 x1 x2 K cs):fn 392 [.pointer (some x0),.agg (.mk x1),.int .i64 x2] K cs:=fO (an:=⟨[],[]⟩) Tryz.func392 h
@[reducible] def s231 (x0:Int) (K:Value→SP):SP:=
 box 436 (.agg (.mk [.int .i64 (if 4096<if 1>x0 then 1 else x0 then 4096 else if 1>x0 then 1 else x0),.slice none 0 0,.int .i64 0,.slice none 0 0,.pointer none])) λa=>K (.pointer (some a))
theorem f231 {x0:Int} (h:s231 x0 K cs):fn 231 [.int .i64 x0] K cs:=fO (an:=⟨[],[]⟩) Tryz.func231 h
@[reducible] def s252 (x0:Addr) (K:Value→SP):SP:=
 ldL 110 (x0.add 1) λ_ a _=>ldI .i64 3 (x0.add 2) λb=>K (.int .i64 (w64 ((a:Int)-b)))
theorem f252 {x0:Addr} (h:s252 x0 K cs):fn 252 [.pointer (some x0)] K cs:=fO (an:=⟨[],[]⟩) Tryz.func252 h
@[reducible] def s325 (x0:Addr) (x1:Option Addr) (y1:Nat) (z1:Nat) (K:Value→SP):SP:=
 fn 386 [.slice x1 y1 z1]<|uT λa=>gP a 0 λc=>gI .i64 a 1 λ_=>gI .i64 a 2 λb=>br (b != 0) (K (.int .i64 b))<|fn 387 [.slice x1 y1 z1]<|uL λd e f=>st 144 (x0.add 3) (.slice d e f)<|st 434 (x0.add 4) (.pointer c)<|st 3 (x0.add 2) (.int .i64 0)<|K (.int .i64 0)
theorem f325 {x0:Addr} {x1:Option Addr} {y1 z1:Nat} (h:s325 x0 x1 y1 z1 K cs):fn 325 [.pointer (some x0),.slice x1 y1 z1] K cs:=fO (an:=⟨[],[]⟩) Tryz.func325 h
@[reducible] def s418 (x0:Addr) (x1:Option Addr) (K:Value→SP):SP:=
 new 514 λb=>new 514 λa=>Lp (λi _=>Jn (λ_=>fn 432 [.pointer (some x0)]<|uT λg=>gI .i64 g 0 λj=>gB g 1 λk=>br (k) (ldI .i64 3 (x0.add 2) λc=>st 4 (a.add 0) (.bool true)<|sB 3 (x0.add 2) (.int .i64 c)<|st 3 (a.add 2) (.int .i64 j)<|sB 3 (x0.add 2) (.int .i64 c)<|st 3 (a.add 3) (.int .i64 c)<|ldI .i64 3 (x0.add 2) λl=>fn 433 [.pointer (some x0),.int .i64 l]<|uT λ_=>ldA 514 (a) λm=>st 514 (b) (.agg (.mk m))<|qy (loadVar 514 b)<|uA λn=>K (.agg (.mk n)))<|i [])<|λh=>ldI .i64 3 (x0.add 2) λo=>ldL 110 (x0.add 1) λ_ p _=>br (o == (p:Int)) (fn 248 [.pointer x1]<|uI .i64 λq=>br (q == 0) (ldA 514 (a) λr=>st 514 (b) (.agg (.mk r))<|qy (loadVar 514 b)<|uA λs=>K (.agg (.mk s)))<|ldL 110 (x0.add 1) λ_ t _=>ldI .i64 3 (x0.add 0) λu=>br ((t:Int) == u) (st 4 (a.add 1) (.bool true)<|ldA 514 (a) λv=>st 514 (b) (.agg (.mk v))<|qy (loadVar 514 b)<|uA λw=>K (.agg (.mk w)))<|ldL 110 (x0.add 1) λd e f=>fn 431 [.pointer x1,.int .i64 1]<|uS λx=>sB 110 (x0.add 1) (.slice d e f)<|qy (Instr.index 9 (.string x) (.int .i64 0))<|uI .u8 λy=>sm (Instr.buildSlice 110 1 (Array.mk [(0,.int .u8 y)]))<|uL λz A B=>sB 110 (x0.add 1) (.slice d e f)<|sm (Builtin.append_ (Array.mk [110,110]) 110 (Array.mk [.slice d e f,.slice z A B]))<|uL λC D E=>st 110 (x0.add 1) (.slice C D E)<|ldI .i64 3 (a.add 4) λF=>st 3 (a.add 4) (.int .i64 (w64 (F+1)))<|h [])<|h []) []
theorem f418 {x0:Addr} {x1:Option Addr} (h:s418 x0 x1 K cs):fn 418 [.pointer (some x0),.pointer x1] K cs:=fO (an:=⟨[(4,[])],[(12,[])]⟩) Tryz.func418 h
@[reducible] def s432 (x0:Addr) (K:Value→SP):SP:=
 ldI .i64 3 (x0.add 2) λb=>st 3 (x0.add 2) (.int .i64 (w64 (b+1)))<|ldP 434 (x0.add 4) λc=>ldL 110 (x0.add 1) λd e f=>ldI .i64 3 (x0.add 2) λg=>ix 110 (.slice d e f) (w64 (g-1)) λh=>ldI .u8 5 (h) λi=>fn 448 [.pointer c,.int .u8 i]<|uT λa=>gI .i64 a 0 λj=>gB a 1 λk=>K (.tuple (Array.mk [.int .i64 j,.bool k]))
theorem f432 {x0:Addr} (h:s432 x0 K cs):fn 432 [.pointer (some x0)] K cs:=fO (an:=⟨[],[]⟩) Tryz.func432 h
@[reducible] def s433 (x0:Addr) (x1:Int) (K:Value→SP):SP:=
 ldL 110 (x0.add 1) λa b c=>qy (Instr.sliceAt 110 (.slice a b c) none (some (.int .i64 0)) (some (.int .i64 0)))<|uL λd e f=>ldL 110 (x0.add 1) λg h i=>qy (Instr.sliceAt 110 (.slice g h i) (some (.int .i64 x1)) none none)<|uL λj k l=>sm (Builtin.append_ (Array.mk [110,110]) 110 (Array.mk [.slice d e f,.slice j k l]))<|uL λm n o=>st 110 (x0.add 1) (.slice m n o)<|st 3 (x0.add 2) (.int .i64 0)<|ldP 434 (x0.add 4) λp=>fn 449 [.pointer p]<|uT λ_=>K (undef)
theorem f433 {x0:Addr} {x1:Int} (h:s433 x0 x1 K cs):fn 433 [.pointer (some x0),.int .i64 x1] K cs:=fO (an:=⟨[],[]⟩) Tryz.func433 h
@[reducible] def s26 (x0:List Value) (x1:Option Addr) (y1:Nat) (z1:Nat) (K:Value→SP):SP:=
 box 23 (.agg (.mk x0)) λa=>ldA 23 (a) λL=>fn 68 [.agg (.mk L)]<|uB λM=>br (!M) (K (.tuple (Array.mk [.pointer none,.int .i64 1])))<|br (decide ((y1:Int)>64)) (K (.tuple (Array.mk [.pointer none,.int .i64 4])))<|Jn (λN=>unP (N.headD undef) λo=>Lp (λO P=>unI .i64 (P.headD undef) λp=>br (decide (p<(y1:Int))) (ix 24 (.slice x1 y1 z1) (p) λQ=>ldA 45 (Q) λR=>new 45 λA=>st 45 (A) (.agg (.mk R))<|nn (o) λq=>ldL 24 (q.add 6) λr s t=>ldA 45 (A) λS=>fn 82 [.agg (.mk S)]<|uA λT=>sB 24 (q.add 6) (.slice r s t)<|sm (Instr.buildSlice 24 1 (Array.mk [(0,.agg (.mk T))]))<|uL λU V W=>sB 24 (q.add 6) (.slice r s t)<|sm (Builtin.append_ (Array.mk [24,24]) 24 (Array.mk [.slice r s t,.slice U V W]))<|uL λX Y Z=>nn (o) λaa=>st 24 (aa.add 6) (.slice X Y Z)<|O [.int .i64 (w64 (p+1))])<|K (.tuple (Array.mk [.pointer o,.int .i64 0]))) [.int .i64 0])<|λg=>ldA 23 (a) λb=>ldI .i64 3 (a.add 0) λi=>ldI .i64 3 (a.add 0) λd=>ldI .i64 3 (a.add 0) λe=>ldI .i64 3 (a.add 4) λf=>ldI .i64 3 (a.add 0) λc=>an (fn 79 [.int .i64 i]<|uP λh=>sB 3 (a.add 0) (.int .i64 c)<|sB 3 (a.add 4) (.int .i64 f)<|sB 3 (a.add 0) (.int .i64 e)<|sB 3 (a.add 0) (.int .i64 d)<|sB 23 a (.agg (.mk b))<|an (sm (Instr.makeSlice 168 (.int .i64 d) (.int .i64 d))<|uL λu v w=>sB 3 (a.add 0) (.int .i64 c)<|sB 3 (a.add 4) (.int .i64 f)<|sB 3 (a.add 0) (.int .i64 e)<|sB 23 a (.agg (.mk b))<|an (fn 80 [.int .i64 e,.int .i64 f]<|uP λB=>sB 3 (a.add 0) (.int .i64 c)<|sB 23 a (.agg (.mk b))<|an (fn 81 [.int .i64 c]<|uP λab=>sB 23 a (.agg (.mk b))<|sm (Instr.makeMap 88 none)<|uM λac=>sB 23 a (.agg (.mk b))<|qy (Instr.build 174 (Array.mk [(0,.agg (.mk b)),(2,.pointer h),(3,.slice u v w),(4,.pointer B),(5,.pointer ab),(6,.map ac)]))<|uA λad=>box 174 (.agg (.mk ad)) λae=>g [.pointer (some ae)])<|sm (Instr.makeMap 88 none)<|uM λaf=>sB 3 (a.add 0) (.int .i64 c)<|sB 23 a (.agg (.mk b))<|fn 81 [.int .i64 c]<|uP λag=>sB 23 a (.agg (.mk b))<|qy (Instr.build 174 (Array.mk [(0,.agg (.mk b)),(2,.pointer h),(3,.slice u v w),(4,.pointer B),(5,.pointer ag),(6,.map af)]))<|uA λah=>box 174 (.agg (.mk ah)) λai=>g [.pointer (some ai)])<|sm (Instr.makeMap 88 none)<|uM λaj=>sB 3 (a.add 0) (.int .i64 c)<|sB 3 (a.add 4) (.int .i64 f)<|sB 3 (a.add 0) (.int .i64 e)<|sB 23 a (.agg (.mk b))<|fn 80 [.int .i64 e,.int .i64 f]<|uP λak=>sB 3 (a.add 0) (.int .i64 c)<|sB 23 a (.agg (.mk b))<|fn 81 [.int .i64 c]<|uP λal=>sB 23 a (.agg (.mk b))<|qy (Instr.build 174 (Array.mk [(0,.agg (.mk b)),(2,.pointer h),(3,.slice u v w),(4,.pointer ak),(5,.pointer al),(6,.map aj)]))<|uA λam=>box 174 (.agg (.mk am)) λao=>g [.pointer (some ao)])<|an (fn 80 [.int .i64 e,.int .i64 f]<|uP λj=>sB 3 (a.add 0) (.int .i64 c)<|sB 3 (a.add 0) (.int .i64 d)<|sB 23 a (.agg (.mk b))<|an (sm (Instr.makeSlice 168 (.int .i64 d) (.int .i64 d))<|uL λC D E=>sB 3 (a.add 0) (.int .i64 c)<|sB 23 a (.agg (.mk b))<|an (fn 81 [.int .i64 c]<|uP λap=>sB 23 a (.agg (.mk b))<|sm (Instr.makeMap 88 none)<|uM λaq=>sB 23 a (.agg (.mk b))<|qy (Instr.build 174 (Array.mk [(0,.agg (.mk b)),(2,.pointer h),(3,.slice C D E),(4,.pointer j),(5,.pointer ap),(6,.map aq)]))<|uA λar=>box 174 (.agg (.mk ar)) λau=>g [.pointer (some au)])<|sm (Instr.makeMap 88 none)<|uM λav=>sB 3 (a.add 0) (.int .i64 c)<|sB 23 a (.agg (.mk b))<|fn 81 [.int .i64 c]<|uP λaw=>sB 23 a (.agg (.mk b))<|qy (Instr.build 174 (Array.mk [(0,.agg (.mk b)),(2,.pointer h),(3,.slice C D E),(4,.pointer j),(5,.pointer aw),(6,.map av)]))<|uA λax=>box 174 (.agg (.mk ax)) λay=>g [.pointer (some ay)])<|an (fn 81 [.int .i64 c]<|uP λF=>sB 3 (a.add 0) (.int .i64 d)<|sB 23 a (.agg (.mk b))<|an (sm (Instr.makeSlice 168 (.int .i64 d) (.int .i64 d))<|uL λaz a0 a1=>sB 23 a (.agg (.mk b))<|sm (Instr.makeMap 88 none)<|uM λa2=>sB 23 a (.agg (.mk b))<|qy (Instr.build 174 (Array.mk [(0,.agg (.mk b)),(2,.pointer h),(3,.slice az a0 a1),(4,.pointer j),(5,.pointer F),(6,.map a2)]))<|uA λa3=>box 174 (.agg (.mk a3)) λa4=>g [.pointer (some a4)])<|sm (Instr.makeMap 88 none)<|uM λa5=>sB 3 (a.add 0) (.int .i64 d)<|sB 23 a (.agg (.mk b))<|sm (Instr.makeSlice 168 (.int .i64 d) (.int .i64 d))<|uL λa6 a7 a8=>sB 23 a (.agg (.mk b))<|qy (Instr.build 174 (Array.mk [(0,.agg (.mk b)),(2,.pointer h),(3,.slice a6 a7 a8),(4,.pointer j),(5,.pointer F),(6,.map a5)]))<|uA λa9=>box 174 (.agg (.mk a9)) λba=>g [.pointer (some ba)])<|sm (Instr.makeMap 88 none)<|uM λG=>sB 3 (a.add 0) (.int .i64 c)<|sB 3 (a.add 0) (.int .i64 d)<|sB 23 a (.agg (.mk b))<|an (sm (Instr.makeSlice 168 (.int .i64 d) (.int .i64 d))<|uL λbb bc bd=>sB 3 (a.add 0) (.int .i64 c)<|sB 23 a (.agg (.mk b))<|fn 81 [.int .i64 c]<|uP λbe=>sB 23 a (.agg (.mk b))<|qy (Instr.build 174 (Array.mk [(0,.agg (.mk b)),(2,.pointer h),(3,.slice bb bc bd),(4,.pointer j),(5,.pointer be),(6,.map G)]))<|uA λbf=>box 174 (.agg (.mk bf)) λbg=>g [.pointer (some bg)])<|fn 81 [.int .i64 c]<|uP λbh=>sB 3 (a.add 0) (.int .i64 d)<|sB 23 a (.agg (.mk b))<|sm (Instr.makeSlice 168 (.int .i64 d) (.int .i64 d))<|uL λbi bj bk=>sB 23 a (.agg (.mk b))<|qy (Instr.build 174 (Array.mk [(0,.agg (.mk b)),(2,.pointer h),(3,.slice bi bj bk),(4,.pointer j),(5,.pointer bh),(6,.map G)]))<|uA λbl=>box 174 (.agg (.mk bl)) λbm=>g [.pointer (some bm)])<|sm (Instr.makeMap 88 none)<|uM λx=>sB 3 (a.add 0) (.int .i64 c)<|sB 3 (a.add 4) (.int .i64 f)<|sB 3 (a.add 0) (.int .i64 e)<|sB 3 (a.add 0) (.int .i64 d)<|sB 23 a (.agg (.mk b))<|an (sm (Instr.makeSlice 168 (.int .i64 d) (.int .i64 d))<|uL λbn bo bp=>sB 3 (a.add 0) (.int .i64 c)<|sB 3 (a.add 4) (.int .i64 f)<|sB 3 (a.add 0) (.int .i64 e)<|sB 23 a (.agg (.mk b))<|fn 80 [.int .i64 e,.int .i64 f]<|uP λbq=>sB 3 (a.add 0) (.int .i64 c)<|sB 23 a (.agg (.mk b))<|fn 81 [.int .i64 c]<|uP λbt=>sB 23 a (.agg (.mk b))<|qy (Instr.build 174 (Array.mk [(0,.agg (.mk b)),(2,.pointer h),(3,.slice bn bo bp),(4,.pointer bq),(5,.pointer bt),(6,.map x)]))<|uA λbu=>box 174 (.agg (.mk bu)) λbv=>g [.pointer (some bv)])<|fn 80 [.int .i64 e,.int .i64 f]<|uP λH=>sB 3 (a.add 0) (.int .i64 c)<|sB 3 (a.add 0) (.int .i64 d)<|sB 23 a (.agg (.mk b))<|an (sm (Instr.makeSlice 168 (.int .i64 d) (.int .i64 d))<|uL λbw bx bz=>sB 3 (a.add 0) (.int .i64 c)<|sB 23 a (.agg (.mk b))<|fn 81 [.int .i64 c]<|uP λb0=>sB 23 a (.agg (.mk b))<|qy (Instr.build 174 (Array.mk [(0,.agg (.mk b)),(2,.pointer h),(3,.slice bw bx bz),(4,.pointer H),(5,.pointer b0),(6,.map x)]))<|uA λb1=>box 174 (.agg (.mk b1)) λb2=>g [.pointer (some b2)])<|fn 81 [.int .i64 c]<|uP λb3=>sB 3 (a.add 0) (.int .i64 d)<|sB 23 a (.agg (.mk b))<|sm (Instr.makeSlice 168 (.int .i64 d) (.int .i64 d))<|uL λb4 b5 b6=>sB 23 a (.agg (.mk b))<|qy (Instr.build 174 (Array.mk [(0,.agg (.mk b)),(2,.pointer h),(3,.slice b4 b5 b6),(4,.pointer H),(5,.pointer b3),(6,.map x)]))<|uA λb7=>box 174 (.agg (.mk b7)) λb8=>g [.pointer (some b8)])<|an (sm (Instr.makeSlice 168 (.int .i64 d) (.int .i64 d))<|uL λk l m=>sB 3 (a.add 0) (.int .i64 c)<|sB 3 (a.add 4) (.int .i64 f)<|sB 3 (a.add 0) (.int .i64 e)<|sB 3 (a.add 0) (.int .i64 i)<|sB 23 a (.agg (.mk b))<|an (fn 79 [.int .i64 i]<|uP λy=>sB 3 (a.add 0) (.int .i64 c)<|sB 3 (a.add 4) (.int .i64 f)<|sB 3 (a.add 0) (.int .i64 e)<|sB 23 a (.agg (.mk b))<|an (fn 80 [.int .i64 e,.int .i64 f]<|uP λI=>sB 3 (a.add 0) (.int .i64 c)<|sB 23 a (.agg (.mk b))<|an (fn 81 [.int .i64 c]<|uP λb9=>sB 23 a (.agg (.mk b))<|sm (Instr.makeMap 88 none)<|uM λca=>sB 23 a (.agg (.mk b))<|qy (Instr.build 174 (Array.mk [(0,.agg (.mk b)),(2,.pointer y),(3,.slice k l m),(4,.pointer I),(5,.pointer b9),(6,.map ca)]))<|uA λcb=>box 174 (.agg (.mk cb)) λcc=>g [.pointer (some cc)])<|sm (Instr.makeMap 88 none)<|uM λcd=>sB 3 (a.add 0) (.int .i64 c)<|sB 23 a (.agg (.mk b))<|fn 81 [.int .i64 c]<|uP λce=>sB 23 a (.agg (.mk b))<|qy (Instr.build 174 (Array.mk [(0,.agg (.mk b)),(2,.pointer y),(3,.slice k l m),(4,.pointer I),(5,.pointer ce),(6,.map cd)]))<|uA λcf=>box 174 (.agg (.mk cf)) λcg=>g [.pointer (some cg)])<|sm (Instr.makeMap 88 none)<|uM λch=>sB 3 (a.add 0) (.int .i64 c)<|sB 3 (a.add 4) (.int .i64 f)<|sB 3 (a.add 0) (.int .i64 e)<|sB 23 a (.agg (.mk b))<|fn 80 [.int .i64 e,.int .i64 f]<|uP λci=>sB 3 (a.add 0) (.int .i64 c)<|sB 23 a (.agg (.mk b))<|fn 81 [.int .i64 c]<|uP λcj=>sB 23 a (.agg (.mk b))<|qy (Instr.build 174 (Array.mk [(0,.agg (.mk b)),(2,.pointer y),(3,.slice k l m),(4,.pointer ci),(5,.pointer cj),(6,.map ch)]))<|uA λck=>box 174 (.agg (.mk ck)) λcl=>g [.pointer (some cl)])<|sm (Instr.makeMap 88 none)<|uM λcm=>sB 3 (a.add 0) (.int .i64 c)<|sB 3 (a.add 4) (.int .i64 f)<|sB 3 (a.add 0) (.int .i64 e)<|sB 3 (a.add 0) (.int .i64 i)<|sB 23 a (.agg (.mk b))<|fn 79 [.int .i64 i]<|uP λcn=>sB 3 (a.add 0) (.int .i64 c)<|sB 3 (a.add 4) (.int .i64 f)<|sB 3 (a.add 0) (.int .i64 e)<|sB 23 a (.agg (.mk b))<|fn 80 [.int .i64 e,.int .i64 f]<|uP λco=>sB 3 (a.add 0) (.int .i64 c)<|sB 23 a (.agg (.mk b))<|fn 81 [.int .i64 c]<|uP λcp=>sB 23 a (.agg (.mk b))<|qy (Instr.build 174 (Array.mk [(0,.agg (.mk b)),(2,.pointer cn),(3,.slice k l m),(4,.pointer co),(5,.pointer cp),(6,.map cm)]))<|uA λcq=>box 174 (.agg (.mk cq)) λcr=>g [.pointer (some cr)])<|sm (Instr.makeMap 88 none)<|uM λn=>sB 3 (a.add 0) (.int .i64 c)<|sB 3 (a.add 4) (.int .i64 f)<|sB 3 (a.add 0) (.int .i64 e)<|sB 3 (a.add 0) (.int .i64 d)<|sB 3 (a.add 0) (.int .i64 i)<|sB 23 a (.agg (.mk b))<|an (fn 79 [.int .i64 i]<|uP λz=>sB 3 (a.add 0) (.int .i64 c)<|sB 3 (a.add 4) (.int .i64 f)<|sB 3 (a.add 0) (.int .i64 e)<|sB 3 (a.add 0) (.int .i64 d)<|sB 23 a (.agg (.mk b))<|an (sm (Instr.makeSlice 168 (.int .i64 d) (.int .i64 d))<|uL λcs ct cu=>sB 3 (a.add 0) (.int .i64 c)<|sB 3 (a.add 4) (.int .i64 f)<|sB 3 (a.add 0) (.int .i64 e)<|sB 23 a (.agg (.mk b))<|fn 80 [.int .i64 e,.int .i64 f]<|uP λcw=>sB 3 (a.add 0) (.int .i64 c)<|sB 23 a (.agg (.mk b))<|fn 81 [.int .i64 c]<|uP λcx=>sB 23 a (.agg (.mk b))<|qy (Instr.build 174 (Array.mk [(0,.agg (.mk b)),(2,.pointer z),(3,.slice cs ct cu),(4,.pointer cw),(5,.pointer cx),(6,.map n)]))<|uA λcy=>box 174 (.agg (.mk cy)) λcz=>g [.pointer (some cz)])<|fn 80 [.int .i64 e,.int .i64 f]<|uP λJ=>sB 3 (a.add 0) (.int .i64 c)<|sB 3 (a.add 0) (.int .i64 d)<|sB 23 a (.agg (.mk b))<|an (sm (Instr.makeSlice 168 (.int .i64 d) (.int .i64 d))<|uL λc0 c1 c2=>sB 3 (a.add 0) (.int .i64 c)<|sB 23 a (.agg (.mk b))<|fn 81 [.int .i64 c]<|uP λc3=>sB 23 a (.agg (.mk b))<|qy (Instr.build 174 (Array.mk [(0,.agg (.mk b)),(2,.pointer z),(3,.slice c0 c1 c2),(4,.pointer J),(5,.pointer c3),(6,.map n)]))<|uA λc4=>box 174 (.agg (.mk c4)) λc5=>g [.pointer (some c5)])<|fn 81 [.int .i64 c]<|uP λc6=>sB 3 (a.add 0) (.int .i64 d)<|sB 23 a (.agg (.mk b))<|sm (Instr.makeSlice 168 (.int .i64 d) (.int .i64 d))<|uL λc7 c8 c9=>sB 23 a (.agg (.mk b))<|qy (Instr.build 174 (Array.mk [(0,.agg (.mk b)),(2,.pointer z),(3,.slice c7 c8 c9),(4,.pointer J),(5,.pointer c6),(6,.map n)]))<|uA λda=>box 174 (.agg (.mk da)) λdb=>g [.pointer (some db)])<|sm (Instr.makeSlice 168 (.int .i64 d) (.int .i64 d))<|uL λdc dd de=>sB 3 (a.add 0) (.int .i64 c)<|sB 3 (a.add 4) (.int .i64 f)<|sB 3 (a.add 0) (.int .i64 e)<|sB 3 (a.add 0) (.int .i64 i)<|sB 23 a (.agg (.mk b))<|fn 79 [.int .i64 i]<|uP λdf=>sB 3 (a.add 0) (.int .i64 c)<|sB 3 (a.add 4) (.int .i64 f)<|sB 3 (a.add 0) (.int .i64 e)<|sB 23 a (.agg (.mk b))<|fn 80 [.int .i64 e,.int .i64 f]<|uP λdg=>sB 3 (a.add 0) (.int .i64 c)<|sB 23 a (.agg (.mk b))<|fn 81 [.int .i64 c]<|uP λdh=>sB 23 a (.agg (.mk b))<|qy (Instr.build 174 (Array.mk [(0,.agg (.mk b)),(2,.pointer df),(3,.slice dc dd de),(4,.pointer dg),(5,.pointer dh),(6,.map n)]))<|uA λdi=>box 174 (.agg (.mk di)) λdj=>g [.pointer (some dj)]
theorem f26 {x0:List Value} {x1:Option Addr} {y1 z1:Nat} (h:s26 x0 x1 y1 z1 K cs):fn 26 [.agg (.mk x0),.slice x1 y1 z1] K cs:=fO (an:=⟨[(7,[(37,.int .i64)])],[(6,[(6,.ptr)])]⟩) Tryz.func26 h
@[reducible] def s28 (x0:Addr) (x1:List Value) (K:Value→SP):SP:=
 box 73 (.agg (.mk x1)) λa=>st 30 (x0.add 16) (.slice none 0 0)<|ldI .i64 3 (x0.add 13) λe=>st 3 (x0.add 13) (.int .i64 (w64 (e+1)))<|ldI .i64 2 (x0.add 12) λf=>ldI .i64 2 (a.add 0) λg=>fn 85 [.int .i64 f,.int .i64 g]<|uI .i64 λb=>st 2 (x0.add 12) (.int .i64 (if 9223372036854775806<b then 9223372036854775806 else b))<|ldI .i64 2 (x0.add 12) λh=>fn 86 [.pointer (some x0),.agg (.mk [.int .i64 1,.int .i64 0,.int .i64 0,.int .i64 h,.string (bs []),.int .i64 0,.int .i64 0,.int .i64 0,.int .i64 0,.int .i64 0,.int .i64 0,.int .i64 0])]<|uT λ_=>ldL 34 (a.add 1) λi j k=>fn 87 [.slice i j k,.func (Fn.func 88) (Array.mk [.pointer (some x0)]) (Array.mk [])]<|uT λ_=>ldL 70 (a.add 2) λl m n=>fn 89 [.slice l m n,.func (Fn.func 90) (Array.mk [.pointer (some x0)]) (Array.mk [])]<|uT λ_=>ldA 73 (a) λo=>fn 91 [.pointer (some x0),.agg (.mk o)]<|uT λ_=>ldL 71 (a.add 3) λp q r=>fn 92 [.slice p q r,.func (Fn.func 93) (Array.mk [.pointer (some x0)]) (Array.mk [])]<|uT λ_=>ldP 171 (x0.add 10) λs=>ldI .i64 2 (x0.add 12) λt=>fn 95 [.pointer s,.int .i64 t]<|uL λu v w=>fn 94 [.slice u v w,.func (Fn.func 96) (Array.mk [.pointer (some x0)]) (Array.mk [])]<|uT λ_=>Jn (λ_=>ldB 4 (x0.add 14) λx=>br (x) (ldB 4 (x0.add 15) λy=>br (!y) (ldP 166 (x0.add 7) λz=>fn 98 [.pointer z]<|uL λ_ A _=>br ((A:Int) == 0) (st 4 (x0.add 15) (.bool true)<|fn 86 [.pointer (some x0),.agg (.mk [.int .i64 9,.int .i64 0,.int .i64 0,.int .i64 0,.string (bs []),.int .i64 0,.int .i64 0,.int .i64 0,.int .i64 0,.int .i64 0,.int .i64 0,.int .i64 0])]<|uT λ_=>ldL 30 (x0.add 16) λB C D=>K (.slice B C D))<|ldL 30 (x0.add 16) λE F G=>K (.slice E F G))<|ldL 30 (x0.add 16) λH I J=>K (.slice H I J))<|ldL 30 (x0.add 16) λL M N=>K (.slice L M N))<|λc=>Lp (λO P=>unI .i64 (P.headD undef) λd=>ldI .i64 3 ((x0.add 0).add 5) λQ=>br (decide (d<Q)) (fn 97 [.pointer (some x0)]<|uB λR=>br (R) (O [.int .i64 (w64 (d+1))])<|c [])<|c []) [.int .i64 0]
theorem f28 {x0:Addr} {x1:List Value} (h:s28 x0 x1 K cs):fn 28 [.pointer (some x0),.agg (.mk x1)] K cs:=fO (an:=⟨[(13,[(5,.int .i64)])],[(15,[])]⟩) Tryz.func28 h
@[reducible] def s29 (x0:Addr) (K:Value→SP):SP:=
 ldP 166 (x0.add 7) λa=>fn 98 [.pointer a]<|uL λb c d=>K (.slice b c d)
theorem f29 {x0:Addr} (h:s29 x0 K cs):fn 29 [.pointer (some x0)] K cs:=fO (an:=⟨[],[]⟩) Tryz.func29 h
@[reducible] def s32 (x0:Addr) (K:Value→SP):SP:=
 fn 101 [.pointer (some x0),.func (Fn.func 102) (Array.mk []) (Array.mk [])]<|uL λa b c=>K (.slice a b c)
theorem f32 {x0:Addr} (h:s32 x0 K cs):fn 32 [.pointer (some x0)] K cs:=fO (an:=⟨[],[]⟩) Tryz.func32 h
@[reducible] def s33 (x0:Addr) (K:Value→SP):SP:=
 fn 101 [.pointer (some x0),.func (Fn.func 103) (Array.mk []) (Array.mk [])]<|uL λa b c=>K (.slice a b c)
theorem f33 {x0:Addr} (h:s33 x0 K cs):fn 33 [.pointer (some x0)] K cs:=fO (an:=⟨[],[]⟩) Tryz.func33 h
@[reducible] def s86 (x0:Addr) (x1:List Value) (K:Value→SP):SP:=
 box 101 (.agg (.mk x1)) λd=>ldL 30 (x0.add 16) λa b c=>ldA 101 (d) λe=>sm (Instr.buildSlice 30 1 (Array.mk [(0,.agg (.mk e))]))<|uL λf g h=>sB 30 (x0.add 16) (.slice a b c)<|sm (Builtin.append_ (Array.mk [30,30]) 30 (Array.mk [.slice a b c,.slice f g h]))<|uL λi j k=>st 30 (x0.add 16) (.slice i j k)<|K (undef)
theorem f86 {x0:Addr} {x1:List Value} (h:s86 x0 x1 K cs):fn 86 [.pointer (some x0),.agg (.mk x1)] K cs:=fO (an:=⟨[],[]⟩) Tryz.func86 h
@[reducible] def s87 (x0:Option Addr) (y0:Nat) (z0:Nat) (x1:Value) (K:Value→SP):SP:=
 Lp (λb c=>unI .i64 (c.headD undef) λa=>br (decide (a<(y0:Int))) (ix 34 (.slice x0 y0 z0) (a) λd=>ldI .i64 3 (d) λe=>cv (x1) [.int .i64 e]<|uT λ_=>b [.int .i64 (w64 (a+1))])<|K (undef)) [.int .i64 0]
theorem f87 {x0:Option Addr} {y0 z0:Nat} {x1:Value} (h:s87 x0 y0 z0 x1 K cs):fn 87 [.slice x0 y0 z0,x1] K cs:=fO (an:=⟨[(1,[(8,.int .i64)])],[]⟩) Tryz.func87 h
@[reducible] def s88 (x0:Addr) (x1:Int) (K:Value→SP):SP:=
 fn 146 [.pointer (some x0),.int .i64 x1]<|uI .i64 λf=>br (f != 0) (ldP 166 (x0.add 7) λi=>fn 147 [.pointer i]<|uI .i64 λj=>fn 86 [.pointer (some x0),.agg (.mk [.int .i64 3,.int .i64 j,.int .i64 x1,.int .i64 0,.string (bs []),.int .i64 f,.int .i64 0,.int .i64 0,.int .i64 0,.int .i64 0,.int .i64 0,.int .i64 0])]<|uT λ_=>K (undef))<|ldP 166 (x0.add 7) λk=>fn 148 [.pointer k]<|uT λa=>gI .i64 a 0 λb=>gI .i64 a 1 λg=>gB a 2 λ_=>ldA 23 (x0.add 0) λl=>ldL 24 (x0.add 6) λm n o=>ix 24 (.slice m n o) (x1) λp=>ldA 45 (p) λq=>ldI .i64 2 (x0.add 12) λr=>fn 149 [.agg (.mk l),.agg (.mk q),.int .i64 r]<|uT λh=>gP h 0 λs=>gI .i64 h 1 λ_=>ldL 168 (x0.add 8) λc d e=>fn 150 []<|uP λt=>sB 168 (x0.add 8) (.slice c d e)<|box 197 (.agg (.mk [.int .i64 b,.pointer s,.pointer t])) λu=>sB 168 (x0.add 8) (.slice c d e)<|ix 168 (.slice c d e) (g) λv=>st 198 (v) (.pointer (some u))<|ldM 88 (x0.add 11) λw=>sm (do Instr.mapUpdate 88 (.map w) (.int .i64 b) (.int .i64 0);pure undef) λ_=>fn 86 [.pointer (some x0),.agg (.mk [.int .i64 2,.int .i64 b,.int .i64 x1,.int .i64 0,.string (bs []),.int .i64 0,.int .i64 0,.int .i64 0,.int .i64 0,.int .i64 0,.int .i64 0,.int .i64 0])]<|uT λ_=>fn 151 [.pointer (some x0),.int .i64 g]<|uT λ_=>K (undef)
theorem f88 {x0:Addr} {x1:Int} (h:s88 x0 x1 K cs):fn 88 [.pointer (some x0),.int .i64 x1] K cs:=fO (an:=⟨[],[]⟩) Tryz.func88 h
@[reducible] def s89 (x0:Option Addr) (y0:Nat) (z0:Nat) (x1:Value) (K:Value→SP):SP:=
 Lp (λc d=>unI .i64 (d.headD undef) λa=>br (decide (a<(y0:Int))) (ix 70 (.slice x0 y0 z0) (a) λe=>ldA 85 (e) λf=>new 85 λb=>st 85 (b) (.agg (.mk f))<|ldA 85 (b) λg=>cv (x1) [.agg (.mk g)]<|uT λ_=>c [.int .i64 (w64 (a+1))])<|K (undef)) [.int .i64 0]
theorem f89 {x0:Option Addr} {y0 z0:Nat} {x1:Value} (h:s89 x0 y0 z0 x1 K cs):fn 89 [.slice x0 y0 z0,x1] K cs:=fO (an:=⟨[(1,[(8,.int .i64)])],[]⟩) Tryz.func89 h
@[reducible] def s90 (x0:Addr) (x1:List Value) (K:Value→SP):SP:=
 box 85 (.agg (.mk x1)) λa=>ldI .i64 3 (a.add 0) λc=>fn 152 [.pointer (some x0),.int .i64 c]<|uT λb=>gP b 0 λd=>gI .i64 b 1 λ_=>gB b 2 λe=>br (e) (nn (d) λf=>ldP 195 (f.add 2) λg=>ldS 9 (a.add 1) λh=>ldB 4 (a.add 2) λi=>fn 153 [.pointer g,.string h,.bool i]<|uB λ_=>K (undef))<|K (undef)
theorem f90 {x0:Addr} {x1:List Value} (h:s90 x0 x1 K cs):fn 90 [.pointer (some x0),.agg (.mk x1)] K cs:=fO (an:=⟨[],[]⟩) Tryz.func90 h
@[reducible] def s91 (x0:Addr) (x1:List Value) (K:Value→SP):SP:=
 box 73 (.agg (.mk x1)) λa=>ldB 4 (a.add 5) λb=>br (b) (ldB 4 (x0.add 15) λc=>br (!c) (ldI .i64 2 (x0.add 12) λd=>fn 154 [.pointer (some x0),.int .i64 d,.bool true]<|uT λ_=>K (undef))<|ldB 4 (a.add 5) λe=>br (!e) (ldI .i64 2 (a.add 4) λf=>br (decide (f>0)) (ldB 4 (x0.add 14) λg=>br (!g) (ldI .i64 2 (x0.add 12) λh=>ldI .i64 2 (a.add 4) λi=>fn 85 [.int .i64 h,.int .i64 (w64 (i-1))]<|uI .i64 λj=>fn 154 [.pointer (some x0),.int .i64 j,.bool false]<|uT λ_=>K (undef))<|K (undef))<|K (undef))<|K (undef))<|ldB 4 (a.add 5) λk=>br (!k) (ldI .i64 2 (a.add 4) λl=>br (decide (l>0)) (ldB 4 (x0.add 14) λm=>br (!m) (ldI .i64 2 (x0.add 12) λn=>ldI .i64 2 (a.add 4) λo=>fn 85 [.int .i64 n,.int .i64 (w64 (o-1))]<|uI .i64 λp=>fn 154 [.pointer (some x0),.int .i64 p,.bool false]<|uT λ_=>K (undef))<|K (undef))<|K (undef))<|K (undef)
theorem f91 {x0:Addr} {x1:List Value} (h:s91 x0 x1 K cs):fn 91 [.pointer (some x0),.agg (.mk x1)] K cs:=fO (an:=⟨[],[]⟩) Tryz.func91 h
@[reducible] def s92 (x0:Option Addr) (y0:Nat) (z0:Nat) (x1:Value) (K:Value→SP):SP:=
 Lp (λc d=>unI .i64 (d.headD undef) λa=>br (decide (a<(y0:Int))) (ix 71 (.slice x0 y0 z0) (a) λe=>ldA 87 (e) λf=>new 87 λb=>st 87 (b) (.agg (.mk f))<|ldA 87 (b) λg=>cv (x1) [.agg (.mk g)]<|uT λ_=>c [.int .i64 (w64 (a+1))])<|K (undef)) [.int .i64 0]
theorem f92 {x0:Option Addr} {y0 z0:Nat} {x1:Value} (h:s92 x0 y0 z0 x1 K cs):fn 92 [.slice x0 y0 z0,x1] K cs:=fO (an:=⟨[(1,[(8,.int .i64)])],[]⟩) Tryz.func92 h
@[reducible] def s93 (x0:Addr) (x1:List Value) (K:Value→SP):SP:=
 box 87 (.agg (.mk x1)) λa=>ldI .i64 3 (a.add 0) λf=>fn 152 [.pointer (some x0),.int .i64 f]<|uT λb=>gP b 0 λc=>gI .i64 b 1 λg=>gB b 2 λh=>br (!h) (K (undef))<|ldL 30 (x0.add 16) λ_ i _=>Jn (λ_=>Jn (λ_=>ldL 30 (x0.add 16) λ_ j _=>br (decide ((j:Int)>(i:Int))) (fn 151 [.pointer (some x0),.int .i64 g]<|uT λ_=>K (undef))<|K (undef))<|λd=>ldB 4 (a.add 2) λk=>br (k) (ldI .i64 3 (a.add 3) λl=>fn 156 [.pointer (some x0),.pointer c,.int .i64 l]<|uT λ_=>d [])<|d [])<|λe=>ldB 4 (a.add 1) λm=>br (m) (fn 155 [.pointer (some x0),.pointer c]<|uT λ_=>e [])<|e []
theorem f93 {x0:Addr} {x1:List Value} (h:s93 x0 x1 K cs):fn 93 [.pointer (some x0),.agg (.mk x1)] K cs:=fO (an:=⟨[],[(6,[]),(8,[])]⟩) Tryz.func93 h
@[reducible] def s94 (x0:Option Addr) (y0:Nat) (z0:Nat) (x1:Value) (K:Value→SP):SP:=
 Lp (λc d=>unI .i64 (d.headD undef) λa=>br (decide (a<(y0:Int))) (ix 75 (.slice x0 y0 z0) (a) λe=>ldA 191 (e) λf=>new 191 λb=>st 191 (b) (.agg (.mk f))<|ldA 191 (b) λg=>cv (x1) [.agg (.mk g)]<|uT λ_=>c [.int .i64 (w64 (a+1))])<|K (undef)) [.int .i64 0]
theorem f94 {x0:Option Addr} {y0 z0:Nat} {x1:Value} (h:s94 x0 y0 z0 x1 K cs):fn 94 [.slice x0 y0 z0,x1] K cs:=fO (an:=⟨[(1,[(8,.int .i64)])],[]⟩) Tryz.func94 h
@[reducible] def s96 (x0:Addr) (x1:List Value) (K:Value→SP):SP:=
 box 191 (.agg (.mk x1)) λa=>ldI .i64 3 (a.add 1) λb=>fn 151 [.pointer (some x0),.int .i64 b]<|uT λ_=>K (undef)
theorem f96 {x0:Addr} {x1:List Value} (h:s96 x0 x1 K cs):fn 96 [.pointer (some x0),.agg (.mk x1)] K cs:=fO (an:=⟨[],[]⟩) Tryz.func96 h
@[reducible] def s97 (x0:Addr) (K:Value→SP):SP:=
 ldP 169 (x0.add 9) λh=>fn 160 [.pointer h]<|uT λc=>gI .i64 c 0 λb=>gB c 1 λi=>br (!i) (K (.bool false))<|ldL 168 (x0.add 8) λj k l=>ix 168 (.slice j k l) (b) λm=>ldP 198 (m) λa=>Jn (λ_=>ldP 169 (x0.add 9) λd=>nn (a) λn=>ldP 194 (n.add 1) λo=>ldI .i64 2 (x0.add 12) λp=>fn 161 [.pointer o,.int .i64 p]<|uB λq=>sB 169 (x0.add 9) (.pointer d)<|fn 165 [.pointer d,.bool q]<|uB λ_=>ldP 171 (x0.add 10) λe=>nn (a) λr=>ldP 194 (r.add 1) λs=>fn 167 [.pointer s]<|uI .i64 λt=>sB 171 (x0.add 10) (.pointer e)<|fn 166 [.pointer e,.int .i64 b,.int .i64 t]<|uB λ_=>K (.bool true))<|λf=>Lp (λu _=>Jn (λ_=>fn 164 [.pointer (some x0),.int .i64 b]<|uB λv=>br (!v) (K (.bool true))<|u [])<|λw=>nn (a) λx=>ldP 194 (x.add 1) λy=>ldI .i64 2 (x0.add 12) λz=>fn 161 [.pointer y,.int .i64 z]<|uB λA=>br (A) (ldP 169 (x0.add 9) λg=>nn (a) λB=>ldP 194 (B.add 1) λC=>fn 163 [.pointer C]<|uI .i64 λD=>sB 169 (x0.add 9) (.pointer g)<|fn 162 [.pointer g,.int .i64 D]<|uB λE=>br (E) (w [])<|f [])<|f []) []
theorem f97 {x0:Addr} (h:s97 x0 K cs):fn 97 [.pointer (some x0)] K cs:=fO (an:=⟨[(5,[])],[(8,[]),(6,[])]⟩) Tryz.func97 h
@[reducible] def s101 (x0:Addr) (x1:Value) (K:Value→SP):SP:=
 ldP 166 (x0.add 7) λj=>fn 98 [.pointer j]<|uL λk f l=>Lp (λg h=>unL (h.headD undef) λb c d=>unI .i64 (h.tail.headD undef) λa=>br (decide (a<(f:Int))) (ix 34 (.slice k f l) (a) λm=>ldI .i64 3 (m) λi=>fn 152 [.pointer (some x0),.int .i64 i]<|uT λe=>gP e 0 λn=>gI .i64 e 1 λ_=>gB e 2 λ_=>nn (n) λo=>ldP 194 (o.add 1) λp=>cv (x1) [.pointer p]<|uI .i64 λq=>br (decide (q>0)) (sm (Instr.buildSlice 34 1 (Array.mk [(0,.int .i64 i)]))<|uL λr s t=>sm (Builtin.append_ (Array.mk [34,34]) 34 (Array.mk [.slice b c d,.slice r s t]))<|uL λu v w=>g [.slice u v w,.int .i64 (w64 (a+1))])<|g [.slice b c d,.int .i64 (w64 (a+1))])<|K (.slice b c d)) [.slice none 0 0,.int .i64 0]
theorem f101 {x0:Addr} {x1:Value} (h:s101 x0 x1 K cs):fn 101 [.pointer (some x0),x1] K cs:=fO (an:=⟨[(5,[(5,.sl),(19,.int .i64)])],[]⟩) Tryz.func101 h
@[reducible] def s103 (x0:Addr) (K:Value→SP):SP:=
 fn 104 [.pointer (some x0)]<|uS λa=>K (.int .i64 (a.size:Int))
theorem f103 {x0:Addr} (h:s103 x0 K cs):fn 103 [.pointer (some x0)] K cs:=fO (an:=⟨[],[]⟩) Tryz.func103 h
@[reducible] def s146 (x0:Addr) (x1:Int) (K:Value→SP):SP:=
 br (decide (x1<0)) (K (.int .i64 5))<|ldL 24 (x0.add 6) λ_ a _=>br (decide (x1≥(a:Int))) (K (.int .i64 5))<|ldL 24 (x0.add 6) λb c d=>ix 24 (.slice b c d) (x1) λe=>ldA 45 (e) λf=>fn 118 [.agg (.mk f)]<|uB λg=>br (!g) (K (.int .i64 2))<|ldB 4 (x0.add 14) λh=>br (h) (K (.int .i64 8))<|ldP 166 (x0.add 7) λi=>fn 225 [.pointer i]<|uI .i64 λj=>br (decide (j≥4096)) (K (.int .i64 4))<|ldP 166 (x0.add 7) λk=>fn 226 [.pointer k]<|uI .i64 λl=>br (l == 0) (K (.int .i64 7))<|K (.int .i64 0)
theorem f146 {x0:Addr} {x1:Int} (h:s146 x0 x1 K cs):fn 146 [.pointer (some x0),.int .i64 x1] K cs:=fO (an:=⟨[],[]⟩) Tryz.func146 h
@[reducible] def s151 (x0:Addr) (x1:Int) (K:Value→SP):SP:=
 ldL 168 (x0.add 8) λc d e=>ix 168 (.slice c d e) (x1) λf=>ldP 198 (f) λa=>ldP 171 (x0.add 10) λb=>nn (a) λg=>ldP 194 (g.add 1) λh=>fn 167 [.pointer h]<|uI .i64 λi=>sB 171 (x0.add 10) (.pointer b)<|fn 166 [.pointer b,.int .i64 x1,.int .i64 i]<|uB λ_=>nn (a) λj=>ldP 194 (j.add 1) λk=>ldI .i64 2 (x0.add 12) λl=>fn 161 [.pointer k,.int .i64 l]<|uB λm=>br (m) (ldP 169 (x0.add 9) λn=>fn 234 [.pointer n,.int .i64 x1]<|uB λ_=>K (undef))<|K (undef)
theorem f151 {x0:Addr} {x1:Int} (h:s151 x0 x1 K cs):fn 151 [.pointer (some x0),.int .i64 x1] K cs:=fO (an:=⟨[],[]⟩) Tryz.func151 h
@[reducible] def s152 (x0:Addr) (x1:Int) (K:Value→SP):SP:=
 ldP 166 (x0.add 7) λc=>fn 235 [.pointer c,.int .i64 x1]<|uT λa=>gI .i64 a 0 λb=>gB a 1 λd=>br (!d) (K (.tuple (Array.mk [.pointer none,.int .i64 0,.bool false])))<|ldL 168 (x0.add 8) λe f g=>ix 168 (.slice e f g) (b) λh=>ldP 198 (h) λi=>K (.tuple (Array.mk [.pointer i,.int .i64 b,.bool true]))
theorem f152 {x0:Addr} {x1:Int} (h:s152 x0 x1 K cs):fn 152 [.pointer (some x0),.int .i64 x1] K cs:=fO (an:=⟨[],[]⟩) Tryz.func152 h
@[reducible] def s154 (x0:Addr) (x1:Int) (x2:Bool) (K:Value→SP):SP:=
 st 4 (x0.add 14) (.bool true)<|fn 86 [.pointer (some x0),.agg (.mk [.int .i64 7,.int .i64 0,.int .i64 0,.int .i64 x1,.string (bs []),.int .i64 0,.int .i64 0,.int .i64 0,.int .i64 0,.int .i64 0,.int .i64 0,.int .i64 0])]<|uT λ_=>ldP 166 (x0.add 7) λf=>fn 98 [.pointer f]<|uL λg e h=>Lp (λb i=>unI .i64 (i.headD undef) λa=>br (decide (a<(e:Int))) (ix 34 (.slice g e h) (a) λj=>ldI .i64 3 (j) λk=>fn 152 [.pointer (some x0),.int .i64 k]<|uT λc=>gP c 0 λl=>gI .i64 c 1 λd=>gB c 2 λ_=>nn (l) λm=>ldP 194 (m.add 1) λn=>fn 236 [.pointer n,.int .i64 x1]<|uT λ_=>br (!x2) (fn 151 [.pointer (some x0),.int .i64 d]<|uT λ_=>b [.int .i64 (w64 (a+1))])<|fn 164 [.pointer (some x0),.int .i64 d]<|uB λo=>br (o) (fn 151 [.pointer (some x0),.int .i64 d]<|uT λ_=>b [.int .i64 (w64 (a+1))])<|b [.int .i64 (w64 (a+1))])<|K (undef)) [.int .i64 0]
theorem f154 {x0:Addr} {x1:Int} {x2:Bool} (h:s154 x0 x1 x2 K cs):fn 154 [.pointer (some x0),.int .i64 x1,.bool x2] K cs:=fO (an:=⟨[(3,[(24,.int .i64)])],[]⟩) Tryz.func154 h
@[reducible] def s155 (x0:Addr) (x1:Option Addr) (K:Value→SP):SP:=
 nn (x1) λd=>ldP 194 (d.add 1) λe=>fn 102 [.pointer e]<|uI .i64 λb=>br (b == 0) (K (undef))<|Jn (λ_=>nn (x1) λf=>ldP 195 (f.add 2) λg=>fn 238 [.pointer g]<|uB λh=>br (h) (nn (x1) λi=>ldP 194 (i.add 1) λj=>fn 239 [.pointer j]<|uB λk=>br (k) (nn (x1) λl=>ldI .i64 3 (l.add 0) λm=>fn 86 [.pointer (some x0),.agg (.mk [.int .i64 5,.int .i64 m,.int .i64 0,.int .i64 0,.string (bs []),.int .i64 0,.int .i64 0,.int .i64 0,.int .i64 0,.int .i64 0,.int .i64 0,.int .i64 0])]<|uT λ_=>K (undef))<|K (undef))<|K (undef))<|λc=>nn (x1) λn=>ldP 195 (n.add 2) λo=>fn 181 [.pointer o,.int .i64 b]<|uS λa=>br (!a.toList == (bs []).toList) (nn (x1) λp=>ldP 194 (p.add 1) λq=>fn 237 [.pointer q,.string a]<|uI .i64 λ_=>nn (x1) λr=>ldI .i64 3 (r.add 0) λs=>fn 86 [.pointer (some x0),.agg (.mk [.int .i64 4,.int .i64 s,.int .i64 (a.size:Int),.int .i64 0,.string a,.int .i64 0,.int .i64 0,.int .i64 0,.int .i64 0,.int .i64 0,.int .i64 0,.int .i64 0])]<|uT λ_=>c [])<|c []
theorem f155 {x0:Addr} {x1:Option Addr} (h:s155 x0 x1 K cs):fn 155 [.pointer (some x0),.pointer x1] K cs:=fO (an:=⟨[],[(6,[])]⟩) Tryz.func155 h
@[reducible] def s156 (x0:Addr) (x1:Option Addr) (x2:Int) (K:Value→SP):SP:=
 nn (x1) λb=>ldP 194 (b.add 1) λc=>fn 240 [.pointer c,.int .i64 x2]<|uS λa=>br (!a.toList == (bs []).toList) (nn (x1) λd=>ldI .i64 3 (d.add 0) λe=>fn 86 [.pointer (some x0),.agg (.mk [.int .i64 6,.int .i64 e,.int .i64 (a.size:Int),.int .i64 0,.string a,.int .i64 0,.int .i64 0,.int .i64 0,.int .i64 0,.int .i64 0,.int .i64 0,.int .i64 0])]<|uT λ_=>K (undef))<|K (undef)
theorem f156 {x0:Addr} {x1:Option Addr} {x2:Int} (h:s156 x0 x1 x2 K cs):fn 156 [.pointer (some x0),.pointer x1,.int .i64 x2] K cs:=fO (an:=⟨[],[]⟩) Tryz.func156 h
@[reducible] def s164 (x0:Addr) (x1:Int) (K:Value→SP):SP:=
 ldL 168 (x0.add 8) λo p q=>ix 168 (.slice o p q) (x1) λr=>ldP 198 (r) λa=>Jn (λd=>unQ (d.headD undef) λs=>unB (d.tail.headD undef) λt=>Jn (λ_=>ldM 88 (x0.add 11) λe=>nn (a) λf=>ldI .i64 3 (f.add 0) λg=>nn (a) λu=>ldP 194 (u.add 1) λv=>fn 254 [.pointer v]<|uI .i64 λw=>sB 3 (f.add 0) (.int .i64 g)<|sB 88 (x0.add 11) (.map e)<|sm (do Instr.mapUpdate 88 (.map e) (.int .i64 g) (.int .i64 w);pure undef) λ_=>nn (a) λx=>ldP 194 (x.add 1) λy=>fn 254 [.pointer y]<|uI .i64 λz=>br (z == 0) (K (.bool true))<|nn (a) λA=>ldP 195 (A.add 2) λB=>fn 255 [.pointer B]<|uI .i64 λ_=>ldP 166 (x0.add 7) λC=>nn (a) λD=>ldI .i64 3 (D.add 0) λE=>fn 256 [.pointer C,.int .i64 E]<|uB λ_=>ldL 168 (x0.add 8) λF G H=>ix 168 (.slice F G H) (x1) λI=>st 198 (I) (.pointer none)<|ldP 169 (x0.add 9) λJ=>fn 257 [.pointer J,.int .i64 x1]<|uB λ_=>ldP 171 (x0.add 10) λL=>fn 258 [.pointer L,.int .i64 x1]<|uB λ_=>K (.bool false))<|λh=>br (t) (nn (a) λM=>ldI .i64 3 (M.add 0) λN=>ldA 99 (s) λO=>qy (Instr.build 101 (Array.mk [(0,.int .i64 8),(1,.int .i64 N),(6,.agg (.mk O))]))<|uA λP=>fn 86 [.pointer (some x0),.agg (.mk P)]<|uT λ_=>h [])<|h [])<|λi=>nn (a) λj=>ldP 194 (j.add 1) λb=>ldI .i64 2 (x0.add 12) λc=>an (fn 253 [.pointer b,.int .i64 c]<|uT λk=>gA k 0 λQ=>gB k 1 λR=>new 99 λl=>st 99 (l) (.agg (.mk Q))<|i [.pointer (some l),.bool R])<|new 99 λm=>sB 2 (x0.add 12) (.int .i64 c)<|sB 194 (j.add 1) (.pointer b)<|fn 253 [.pointer b,.int .i64 c]<|uT λn=>gA n 0 λS=>gB n 1 λT=>st 99 (m) (.agg (.mk S))<|i [.pointer (some m),.bool T]
theorem f164 {x0:Addr} {x1:Int} (h:s164 x0 x1 K cs):fn 164 [.pointer (some x0),.int .i64 x1] K cs:=fO (an:=⟨[],[(3,[(6,.adr),(7,.bool)]),(5,[])]⟩) Tryz.func164 h
@[reducible] def s34 (x0:List Value) (x1:Option Addr) (y1:Nat) (z1:Nat) (x2:Option Addr) (y2:Nat) (z2:Nat) (K:Value→SP):SP:=
 box 23 (.agg (.mk x0)) λm=>new 29 λb=>ldA 23 (m) λn=>fn 26 [.agg (.mk n),.slice x1 y1 z1]<|uT λg=>gP g 0 λo=>gI .i64 g 1 λh=>br (h != 0) (st 29 (b) (.agg (.mk [.int .i64 0,.int .i64 0,.int .i64 0]))<|qy (loadVar 29 b)<|uA λp=>K (.tuple (Array.mk [.agg (.mk p),.slice none 0 0,.int .i64 h])))<|sm (Instr.makeMap 202 none)<|uM λq=>sm (Instr.makeMap 203 none)<|uM λr=>box 207 (.agg (.mk [.pointer o,.map q,.map r,.map none,.int .i64 0,.map none,.int .i64 0])) λa=>Lp (λs i=>unL (i.headD undef) λc d e=>unI .i64 (i.tail.headD undef) λf=>br (decide (f<(y2:Int))) (ix 25 (.slice x2 y2 z2) (f) λt=>ldA 73 (t) λu=>new 73 λj=>st 73 (j) (.agg (.mk u))<|ldA 73 (j) λv=>fn 105 [.pointer (some a),.agg (.mk v)]<|uL λw x y=>sm (Builtin.append_ (Array.mk [30,30]) 30 (Array.mk [.slice c d e,.slice w x y]))<|uL λz A B=>s [.slice z A B,.int .i64 (w64 (f+1))])<|ldI .i64 3 ((a.add 3).add 1) λk=>ldI .i64 3 ((a.add 5).add 1) λl=>fn 106 [.slice c d e]<|uI .i64 λC=>sB 3 ((a.add 5).add 1) (.int .i64 l)<|sB 3 ((a.add 3).add 1) (.int .i64 k)<|st 29 (b) (.agg (.mk [.int .i64 C,.int .i64 (w64 (k+1)),.int .i64 (w64 (l+1))]))<|qy (loadVar 29 b)<|uA λD=>K (.tuple (Array.mk [.agg (.mk D),.slice c d e,.int .i64 0]))) [.slice none 0 0,.int .i64 0]
theorem f34 {x0:List Value} {x1:Option Addr} {y1 z1:Nat} {x2:Option Addr} {y2 z2:Nat} (h:s34 x0 x1 y1 z1 x2 y2 z2 K cs):fn 34 [.agg (.mk x0),.slice x1 y1 z1,.slice x2 y2 z2] K cs:=fO (an:=⟨[(7,[(9,.sl),(32,.int .i64)])],[]⟩) Tryz.func34 h
@[reducible] def s105 (x0:Addr) (x1:List Value) (K:Value→SP):SP:=
 box 73 (.agg (.mk x1)) λs=>ldP 65 (x0.add 0) λA=>ldP 65 (x0.add 0) λw=>ldP 65 (x0.add 0) λt=>fn 29 [.pointer A]<|uL λB x C=>sB 65 (x0.add 0) (.pointer t)<|sB 65 (x0.add 0) (.pointer w)<|fn 32 [.pointer w]<|uL λD E F=>sB 65 (x0.add 0) (.pointer t)<|fn 33 [.pointer t]<|uL λG H I=>ldP 65 (x0.add 0) λJ=>ldA 73 (s) λL=>fn 28 [.pointer J,.agg (.mk L)]<|uL λo d p=>ldA 73 (s) λM=>fn 177 [.pointer (some x0),.agg (.mk M),.slice B x C,.slice o d p]<|uL λN O P=>qy (Instr.sliceAt 34 (.slice N O P) (some (.int .i64 (x:Int))) none none)<|uL λQ R S=>sm (Builtin.append_ (Array.mk [34,34]) 34 (Array.mk [.slice D E F,.slice Q R S]))<|uL λT y U=>Lp (λq z=>unL (z.headD undef) λe f g=>unI .i64 (z.tail.headD undef) λb=>br (decide (b<(y:Int))) (ix 34 (.slice T y U) (b) λV=>ldI .i64 3 (V) λh=>ldM 202 (x0.add 1) λW=>qy (Instr.lookup 202 (.map W) (.int .i64 h) false)<|uP λX=>fn 178 [.pointer X]<|uI .i64 λY=>br (decide (Y>0)) (sm (Instr.buildSlice 34 1 (Array.mk [(0,.int .i64 h)]))<|uL λZ aa ab=>sm (Builtin.append_ (Array.mk [34,34]) 34 (Array.mk [.slice e f g,.slice Z aa ab]))<|uL λac ad ae=>q [.slice ac ad ae,.int .i64 (w64 (b+1))])<|ldM 202 (x0.add 1) λaf=>qy (Instr.lookup 202 (.map af) (.int .i64 h) false)<|uP λag=>fn 179 [.pointer ag]<|uB λah=>br (ah) (ldM 203 (x0.add 2) λai=>qy (Instr.lookup 203 (.map ai) (.int .i64 h) false)<|uB λaj=>br (!aj) (sm (Instr.buildSlice 34 1 (Array.mk [(0,.int .i64 h)]))<|uL λak al am=>sm (Builtin.append_ (Array.mk [34,34]) 34 (Array.mk [.slice e f g,.slice ak al am]))<|uL λan ao ap=>q [.slice an ao ap,.int .i64 (w64 (b+1))])<|q [.slice e f g,.int .i64 (w64 (b+1))])<|q [.slice e f g,.int .i64 (w64 (b+1))])<|Lp (λr u=>unL (u.headD undef) λi j k=>unL (u.tail.headD undef) λl m n=>unI .i64 (u.tail.tail.headD undef) λc=>br (decide (c<(d:Int))) (ix 30 (.slice o d p) (c) λaq=>ldA 101 (aq) λar=>new 101 λa=>st 101 (a) (.agg (.mk ar))<|ldI .i64 3 (a.add 0) λv=>br (v == 4) (ldM 202 (x0.add 1) λau=>ldI .i64 3 (a.add 1) λav=>qy (Instr.lookup 202 (.map au) (.int .i64 av) false)<|uP λaw=>ldI .i64 3 (a.add 2) λax=>fn 181 [.pointer aw,.int .i64 ax]<|uS λ_=>fn 182 [.slice l m n,.func (Fn.func 180) (Array.mk []) (Array.mk [.pointer (some a)])]<|uL λay az a0=>r [.slice i j k,.slice ay az a0,.int .i64 (w64 (c+1))])<|br (v == 5) (ldM 203 (x0.add 2) λa1=>ldI .i64 3 (a.add 1) λa2=>sm (do Instr.mapUpdate 203 (.map a1) (.int .i64 a2) (.bool true);pure undef) λ_=>fn 182 [.slice l m n,.func (Fn.func 180) (Array.mk []) (Array.mk [.pointer (some a)])]<|uL λa3 a4 a5=>r [.slice i j k,.slice a3 a4 a5,.int .i64 (w64 (c+1))])<|br (v == 6) (fn 182 [.slice i j k,.func (Fn.func 180) (Array.mk []) (Array.mk [.pointer (some a)])]<|uL λa6 a7 a8=>r [.slice a6 a7 a8,.slice l m n,.int .i64 (w64 (c+1))])<|r [.slice i j k,.slice l m n,.int .i64 (w64 (c+1))])<|ldB 4 (s.add 5) λa9=>br (a9) (fn 183 [.pointer (some (x0.add 3)),.slice none 0 0]<|uT λ_=>fn 183 [.pointer (some (x0.add 5)),.slice none 0 0]<|uT λ_=>K (.slice o d p))<|fn 183 [.pointer (some (x0.add 3)),.slice l m n]<|uT λ_=>fn 183 [.pointer (some (x0.add 5)),.slice i j k]<|uT λ_=>K (.slice o d p)) [.slice G H I,.slice e f g,.int .i64 0]) [.slice none 0 0,.int .i64 0]
theorem f105 {x0:Addr} {x1:List Value} (h:s105 x0 x1 K cs):fn 105 [.pointer (some x0),.agg (.mk x1)] K cs:=fO (an:=⟨[(8,[(10,.sl),(51,.int .i64)]),(14,[(7,.sl),(10,.sl),(88,.int .i64)])],[]⟩) Tryz.func105 h
@[reducible] def s106 (x0:Option Addr) (y0:Nat) (z0:Nat) (K:Value→SP):SP:=
 Lp (λe d=>unI .i64 (d.headD undef) λa=>unI .i64 (d.tail.headD undef) λf=>unI .i64 (d.tail.tail.headD undef) λb=>br (decide (b<(y0:Int))) (ix 30 (.slice x0 y0 z0) (b) λh=>ldA 101 (h) λi=>new 101 λc=>st 101 (c) (.agg (.mk i))<|ldI .i64 3 (c.add 0) λj=>br (j == 1) (ldI .i64 2 (c.add 3) λk=>fn 184 [.int .i64 f,.int .i64 k]<|uI .i64 λg=>ldI .i64 2 (c.add 3) λl=>e [.int .i64 (if g>a then g else a),.int .i64 l,.int .i64 (w64 (b+1))])<|e [.int .i64 a,.int .i64 f,.int .i64 (w64 (b+1))])<|K (.int .i64 a)) [.int .i64 1,.int .i64 0,.int .i64 0]
theorem f106 {x0:Option Addr} {y0 z0:Nat} (h:s106 x0 y0 z0 K cs):fn 106 [.slice x0 y0 z0] K cs:=fO (an:=⟨[(3,[(3,.int .i64),(4,.int .i64),(9,.int .i64)])],[]⟩) Tryz.func106 h
@[reducible] def s177 (x0:Addr) (x1:List Value) (x2:Option Addr) (y2:Nat) (z2:Nat) (x3:Option Addr) (y3:Nat) (z3:Nat) (K:Value→SP):SP:=
 box 73 (.agg (.mk x1)) λn=>Lp (λh i=>unL (i.headD undef) λc d e=>unI .i64 (i.tail.headD undef) λf=>br (decide (f<(y3:Int))) (ix 30 (.slice x3 y3 z3) (f) λo=>ldA 101 (o) λp=>new 101 λa=>st 101 (a) (.agg (.mk p))<|ldI .i64 3 (a.add 0) λq=>br (q == 2) (ldM 202 (x0.add 1) λj=>ldI .i64 3 (a.add 1) λk=>fn 150 []<|uP λr=>sB 3 (a.add 1) (.int .i64 k)<|sB 202 (x0.add 1) (.map j)<|sm (do Instr.mapUpdate 202 (.map j) (.int .i64 k) (.pointer r);pure undef) λ_=>ldI .i64 3 (a.add 1) λs=>sm (Instr.buildSlice 34 1 (Array.mk [(0,.int .i64 s)]))<|uL λt u v=>sm (Builtin.append_ (Array.mk [34,34]) 34 (Array.mk [.slice c d e,.slice t u v]))<|uL λw x y=>h [.slice w x y,.int .i64 (w64 (f+1))])<|h [.slice c d e,.int .i64 (w64 (f+1))])<|ldL 70 (n.add 2) λz l A=>Lp (λm B=>unI .i64 (B.headD undef) λg=>br (decide (g<(l:Int))) (ix 70 (.slice z l A) (g) λC=>ldA 85 (C) λD=>new 85 λb=>st 85 (b) (.agg (.mk D))<|ldI .i64 3 (b.add 0) λE=>fn 270 [.slice c d e,.int .i64 E]<|uB λF=>br (F) (ldM 202 (x0.add 1) λG=>ldI .i64 3 (b.add 0) λH=>qy (Instr.lookup 202 (.map G) (.int .i64 H) false)<|uP λI=>ldS 9 (b.add 1) λJ=>ldB 4 (b.add 2) λL=>fn 153 [.pointer I,.string J,.bool L]<|uB λ_=>m [.int .i64 (w64 (g+1))])<|m [.int .i64 (w64 (g+1))])<|K (.slice c d e)) [.int .i64 0]) [.slice x2 y2 z2,.int .i64 0]
theorem f177 {x0:Addr} {x1:List Value} {x2:Option Addr} {y2 z2:Nat} {x3:Option Addr} {y3 z3:Nat} (h:s177 x0 x1 x2 y2 z2 x3 y3 z3 K cs):fn 177 [.pointer (some x0),.agg (.mk x1),.slice x2 y2 z2,.slice x3 y3 z3] K cs:=fO (an:=⟨[(2,[(2,.sl),(15,.int .i64)]),(9,[(38,.int .i64)])],[]⟩) Tryz.func177 h
@[reducible] def s180 (x0:Int) (x1:Addr) (K:Value→SP):SP:=
 ldI .i64 3 (x1.add 1) λa=>K (.bool (x0 == a))
theorem f180 {x0:Int} {x1:Addr} (h:s180 x0 x1 K cs):fn 180 [.int .i64 x0,.pointer (some x1)] K cs:=fO (an:=⟨[],[]⟩) Tryz.func180 h
@[reducible] def s183 (x0:Addr) (x1:Option Addr) (y1:Nat) (z1:Nat) (K:Value→SP):SP:=
 sm (Instr.makeMap 88 none)<|uM λa=>Lp (λf g=>unI .i64 (g.headD undef) λb=>br (decide (b<(y1:Int))) (ix 34 (.slice x1 y1 z1) (b) λh=>ldI .i64 3 (h) λc=>ldM 88 (x0.add 0) λi=>qy (Instr.lookup 88 (.map i) (.int .i64 c) false)<|uI .i64 λj=>sm (do Instr.mapUpdate 88 (.map a) (.int .i64 c) (.int .i64 (w64 (j+1)));pure undef) λ_=>ldI .i64 3 (x0.add 1) λd=>qy (Instr.lookup 88 (.map a) (.int .i64 c) false)<|uI .i64 λe=>st 3 (x0.add 1) (.int .i64 (if e>d then e else d))<|f [.int .i64 (w64 (b+1))])<|st 88 (x0.add 0) (.map a)<|K (undef)) [.int .i64 0]
theorem f183 {x0:Addr} {x1:Option Addr} {y1 z1:Nat} (h:s183 x0 x1 y1 z1 K cs):fn 183 [.pointer (some x0),.slice x1 y1 z1] K cs:=fO (an:=⟨[(2,[(10,.int .i64)])],[]⟩) Tryz.func183 h
@[reducible] def s184 (x0:Int) (x1:Int) (K:Value→SP):SP:=
 K (.int .i64 (if 0>w64 ((if 0>x1 then 0 else x1)-if 0>x0 then 0 else x0)then 0 else w64 ((if 0>x1 then 0 else x1)-if 0>x0 then 0 else x0)))
theorem f184 {x0 x1:Int} (h:s184 x0 x1 K cs):fn 184 [.int .i64 x0,.int .i64 x1] K cs:=fO (an:=⟨[],[]⟩) Tryz.func184 h
@[reducible] def s36 (x0:List Value) (x1:Option Addr) (y1:Nat) (z1:Nat) (x2:Option Addr) (y2:Nat) (z2:Nat) (K:Value→SP):SP:=
 box 23 (.agg (.mk x0)) λb=>ldA 23 (b) λc=>fn 107 [.agg (.mk c),.slice x1 y1 z1,.slice x2 y2 z2]<|uT λa=>gL a 0 λd e f=>gI .i64 a 1 λg=>K (.tuple (Array.mk [.slice d e f,.int .i64 g]))
theorem f36 {x0:List Value} {x1:Option Addr} {y1 z1:Nat} {x2:Option Addr} {y2 z2:Nat} (h:s36 x0 x1 y1 z1 x2 y2 z2 K cs):fn 36 [.agg (.mk x0),.slice x1 y1 z1,.slice x2 y2 z2] K cs:=fO (an:=⟨[],[]⟩) Tryz.func36 h
@[reducible] def s39 (x0:Option Addr) (y0:Nat) (z0:Nat) (K:Value→SP):SP:=
 sm (Instr.makeMap 88 none)<|uM λb=>Lp (λe i=>unB (i.headD undef) λf=>unI .i64 (i.tail.headD undef) λa=>br (decide (a<(y0:Int))) (ix 30 (.slice x0 y0 z0) (a) λm=>ldA 101 (m) λn=>new 101 λg=>st 101 (g) (.agg (.mk n))<|ldI .i64 3 (g.add 0) λj=>br (j == 2) (ldI .i64 3 (g.add 1) λo=>qy (Instr.lookup 88 (.map b) (.int .i64 o) true)<|uT λk=>gI .i64 k 0 λ_=>gB k 1 λp=>br (!p) (ldI .i64 3 (g.add 1) λq=>sm (do Instr.mapUpdate 88 (.map b) (.int .i64 q) (.int .i64 0);pure undef) λ_=>e [.bool f,.int .i64 (w64 (a+1))])<|e [.bool f,.int .i64 (w64 (a+1))])<|br (j == 9) (e [.bool true,.int .i64 (w64 (a+1))])<|e [.bool f,.int .i64 (w64 (a+1))])<|Lp (λh r=>unI .i64 (r.headD undef) λc=>br (decide (c<(y0:Int))) (ix 30 (.slice x0 y0 z0) (c) λs=>ldA 101 (s) λt=>new 101 λd=>st 101 (d) (.agg (.mk t))<|ldI .i64 3 (d.add 1) λu=>qy (Instr.lookup 88 (.map b) (.int .i64 u) true)<|uT λl=>gI .i64 l 0 λ_=>gB l 1 λv=>br (v) (ldI .i64 3 (d.add 0) λw=>br (w == 8) (ldI .i64 3 (d.add 1) λx=>ldI .i64 3 ((d.add 6).add 5) λy=>sm (do Instr.mapUpdate 88 (.map b) (.int .i64 x) (.int .i64 y);pure undef) λ_=>h [.int .i64 (w64 (c+1))])<|h [.int .i64 (w64 (c+1))])<|h [.int .i64 (w64 (c+1))])<|K (.tuple (Array.mk [.map b,.bool f]))) [.int .i64 0]) [.bool false,.int .i64 0]
theorem f39 {x0:Option Addr} {y0 z0:Nat} (h:s39 x0 y0 z0 K cs):fn 39 [.slice x0 y0 z0] K cs:=fO (an:=⟨[(3,[(5,.bool),(17,.int .i64)]),(14,[(42,.int .i64)])],[]⟩) Tryz.func39 h
@[reducible] def s84 (x0:Option Addr) (y0:Nat) (z0:Nat) (K:Value→SP):SP:=
 fn 144 [.slice x0 y0 z0]<|uL λa b c=>K (.slice a b c)
theorem f84 {x0:Option Addr} {y0 z0:Nat} (h:s84 x0 y0 z0 K cs):fn 84 [.slice x0 y0 z0] K cs:=fO (an:=⟨[],[]⟩) Tryz.func84 h
@[reducible] def s107 (x0:List Value) (x1:Option Addr) (y1:Nat) (z1:Nat) (x2:Option Addr) (y2:Nat) (z2:Nat) (K:Value→SP):SP:=
 box 23 (.agg (.mk x0)) λi=>ldA 23 (i) λj=>fn 26 [.agg (.mk j),.slice x1 y1 z1]<|uT λb=>gP b 0 λk=>gI .i64 b 1 λc=>br (c != 0) (K (.tuple (Array.mk [.slice none 0 0,.int .i64 c])))<|Lp (λl d=>unL (d.headD undef) λe f g=>unI .i64 (d.tail.headD undef) λa=>br (decide (a<(y2:Int))) (ix 25 (.slice x2 y2 z2) (a) λm=>ldA 73 (m) λn=>new 73 λh=>st 73 (h) (.agg (.mk n))<|ldA 73 (h) λo=>fn 28 [.pointer k,.agg (.mk o)]<|uL λp q r=>sm (Builtin.append_ (Array.mk [30,30]) 30 (Array.mk [.slice e f g,.slice p q r]))<|uL λs t u=>l [.slice s t u,.int .i64 (w64 (a+1))])<|K (.tuple (Array.mk [.slice e f g,.int .i64 0]))) [.slice none 0 0,.int .i64 0]
theorem f107 {x0:List Value} {x1:Option Addr} {y1 z1:Nat} {x2:Option Addr} {y2 z2:Nat} (h:s107 x0 x1 y1 z1 x2 y2 z2 K cs):fn 107 [.agg (.mk x0),.slice x1 y1 z1,.slice x2 y2 z2] K cs:=fO (an:=⟨[(6,[(8,.sl),(24,.int .i64)])],[]⟩) Tryz.func107 h
@[reducible] def s144 (x0:Option Addr) (y0:Nat) (z0:Nat) (K:Value→SP):SP:=
 Lp (λh c=>unL (c.headD undef) λd e f=>unI .i64 (c.tail.headD undef) λb=>br (decide (b<(y0:Int))) (ix 176 (.slice x0 y0 z0) (b) λi=>ldA 276 (i) λj=>new 276 λa=>st 276 (a) (.agg (.mk j))<|Jn (λ_=>ldA 45 (a.add 0) λk=>sm (Instr.buildSlice 24 1 (Array.mk [(0,.agg (.mk k))]))<|uL λl m n=>sm (Builtin.append_ (Array.mk [24,24]) 24 (Array.mk [.slice d e f,.slice l m n]))<|uL λo p q=>h [.slice o p q,.int .i64 (w64 (b+1))])<|λg=>ldI .i64 57 (a.add 7) λr=>br (r != 0) (st 45 (a.add 0) (.agg (.mk [.string (bs []),.int .i64 0,.int .i64 0,.slice none 0 0]))<|g [])<|g [])<|K (.slice d e f)) [.slice none 0 0,.int .i64 0]
theorem f144 {x0:Option Addr} {y0 z0:Nat} (h:s144 x0 y0 z0 K cs):fn 144 [.slice x0 y0 z0] K cs:=fO (an:=⟨[(3,[(3,.sl),(8,.int .i64)])],[(7,[])]⟩) Tryz.func144 h
end Go.Proofs.YtbjlfobjngogkaaGreatDoor
namespace Go.Proofs.YtbjlfobjngogkaaGreatDoor
open Go
set_option synthInstance.maxSize 100000
set_option synthInstance.maxHeartbeats 1000000
set_option maxRecDepth 100000
theorem zi3 {cs:St} {t ty e sz by_ n c c2:Nat} {a a2:Option Addr} {K:Value→SP} (p:SlcT t e sz by_) (hn:n≤c) (h:K (.slice a n c) cs):
  sm (Builtin.append_ ⟨[t,t]⟩ ty ⟨[.slice a n c,.slice a2 0 c2]⟩) K cs:=by
 obtain⟨inf,z,hu,hinf,hsz,hby,hz,hzs,h0⟩:=zb0 p.h;refine⟨λE w hw=>⟨_,w,cs,?_,hw,h⟩⟩;have e1:∀b:Addr,(Builtin.firstCells inf.size 0 (.slice (some b) 0 c2)).run Tryz.prog w= .ok #[] w:=λb=>by
  have:=run_firstCells_some (P:=Tryz.prog) w inf.size 0 b 0 c2 [] (by simp) (by simp)
  simpa using this
 cases a2 with
 | none=>
  cases a with
  | none=>simp [Builtin.append_,zaf hu,sizeOf,zcr hinf,Builtin.lenOf,hn,Builtin.firstCells]
  | some q=>simp [Builtin.append_,zaf hu,sizeOf,zcr hinf,Builtin.lenOf,hn,Builtin.firstCells,storeCells]
 | some b=>
  cases a with
  | none=>simp [Builtin.append_,zaf hu,sizeOf,zcr hinf,Builtin.lenOf,hn,e1]
  | some q=>simp [Builtin.append_,zaf hu,sizeOf,zcr hinf,Builtin.lenOf,hn,e1,storeCells]
theorem zdn {α:Type} {cs:St} {sz n c:Nat} {e:Enc α sz} {a:Option Addr} {l:List α} (r:RdS cs e a n c l) (hn:0<n):∃b,a=some b∧Reads cs b (l.flatMap e.f):=by
 obtain⟨rb,o,T,cells,h1,h2,h3⟩:=r.get hn;exact⟨_,h1,λE w hw j u hu=>by rw [zbd,h2.cell hw];exact h3 j u hu⟩
instance c387 {cs:St} {K:Value→SP} {a:Option Addr} {n c:Nat} {ps:List ByteArray} [r:Rw 9 1 cs a n c encS ps]:Go1 (fn 387 [.slice a n c] K cs) (n<1000000000∧∀a' n' c',K (.slice a' n' c') cs):=⟨λ⟨hn,h⟩=>up0 (f387 (by
 unfold s387;have hlen:=r.h.len;refine go ⟨λ_=>fin (h _ _ _),λ_=> ?_⟩;refine⟨by decide,λb1=> ?_⟩;by_cases h0:n=0
 ·subst h0;exact zi3 inferInstance (JG _) (go (fin (h _ _ _)))
 ·obtain⟨b,rfl,hr⟩:=zdn (r.h.cons (d:=bk b1 9 [])) (by omega);refine zkp 0 rfl (Sl.nil (T:=9) (sz:=1)) (bytes:=16) (news:=ps.flatMap encS.f) (by rw [encS.flat_len,←hlen]) hr (λu hu=> ?_) (by omega) (by omega) (by omega) (λv' ch' hs=> ?_) (by kernel_rfl)
  ·obtain⟨s,_,hs⟩:=List.mem_flatMap.1 hu;simp at hs;subst hs;rfl
  ·obtain⟨a',c',rfl⟩:=hs.val;simp only [List.set_cons_zero];exact go (fin (h _ _ _))))⟩
instance (priority:=4000) cut00 {cs:St} {t sz n c:Nat} {a:Option Addr} {K:Value→SP} [p:IxT t sz]:Go1 (qy (Instr.sliceAt t (.slice a n c) none (some (.int .i64 0)) (some (.int .i64 0))) K cs) (K (.slice a 0 0) cs):=⟨λh=>by
 obtain⟨e,hu,hs⟩:=zrd (znu p);refine⟨_,λE w _=> ?_,h⟩;simp [Instr.sliceAt,Instr.slice,Instr.sliceBounds,Instr.sliceBound,zaf hu,zby hs,asIntOf]⟩
theorem Ob.fnH {X:Type} {C:Nat→X→Chunk} {cs:St} {b:Nat} {x:X} {put:Chunk→St} (o:Ob C cs b x put) (d:Chunk) {g:FuncId} {args:List Value} {K:Value→SP} (parts:St) (hp:parts.flatten=C b x)
  (h:∀F,Go.Proofs.YtbjlfobjngogkaaGreatDoor.fn g args (λv c=>∃parts',Imp c (parts'++d::F)∧K v (d::put parts'.flatten)) (parts++d::F)):Go.Proofs.YtbjlfobjngogkaaGreatDoor.fn g args K (d::cs):=by
 obtain⟨i,h1,h2⟩:=o.h;refine zfu (i+1) parts (by rw [hp];exact h1) ?_;refine⟨(h (cs.set i [])).enters,λE w hw=>Calls.mono ((h (cs.set i [])).calls E w hw) ?_⟩;rintro e w' ⟨v,c1,he,hw1,parts',g1,g2⟩;exact⟨v,c1,he,hw1,[],parts',g1,by rw [h2]at g2;exact g2⟩
@[reducible] def encB:Enc UInt8 1:=⟨λx=>[.int .u8 (x.toNat:Nat)],by omega,λ_=>rfl⟩
instance fdB0:FdI encB 0 .u8 (λx=>(x.toNat:Int)):=⟨λ_=>rfl⟩
structure Hd where
 win:Int
 a:Option Addr
 n:Nat
 c:Nat
 b:List UInt8
 ch:Chunk
 row:Row 5 1 a n c encB b ch
 seen:Nat
 pa:Option Addr
 pn:Nat
 pc:Nat
 ar:Option (Nat×Ar)
 h0:seen≤b.length
 h1:1≤win
 h2:win≤4096
 h3:b.length≤win
def arP:Option (Nat×Ar)→Option Addr
 | none=>none
 | some y=>some (ad y.1 0)
def arCh:Option (Nat×Ar)→Chunk
 | none=>[]
 | some y=>armsC y.1 y.2
def Hd.m (x:Hd):Option Pats:=x.ar.map λy=>y.2.m
def holdC (b:Nat) (x:Hd):Chunk:=bk b 436 [.int .i64 x.win,.slice x.a x.n x.c,.int .i64 x.seen,.slice x.pa x.pn x.pc,.pointer (arP x.ar)]++(x.ch++arCh x.ar)
section
variable {cs:St} {b:Nat} {x:Hd} {put:Chunk→St} {K:Value→SP}
instance holdRd [o:Ob holdC cs b x put]:RdB cs b 436 [.int .i64 x.win,.slice x.a x.n x.c,.int .i64 x.seen,.slice x.pa x.pn x.pc,.pointer (arP x.ar)]:=⟨by
 obtain⟨i,h,_⟩:=o.h;exact Rd.in h (by simp [holdC,bk])⟩
instance c231 {w:Int}:Go1 (fn 231 [.int .i64 w] K cs) (∀b x,Hd.win x=min (max w 1) 4096→x.b=[]→x.seen=0→x.m=none→K (.pointer (some (ad b 0))) (holdC b x::cs)):=⟨λh=>f231 (by
 unfold s231;have e:(if 4096<if 1>w then 1 else w then 4096 else if 1>w then 1 else w)=min (max w 1) 4096:=by omega
 rw [e];refine go λb=> ?_;have hh:=h b ⟨min (max w 1) 4096,none,0,0,[],[],⟨Sl.nil⟩,0,none,0,0,none,by simp,by omega,by omega,by simp;omega⟩ rfl rfl rfl rfl;simpa [holdC,arP,arCh]using hh)⟩
instance c252 [o:Ob holdC cs b x put]:Go1 (fn 252 [.pointer (some (ad b 0))] K cs) (K (.int .i64 ((x.b.length-x.seen:Nat):Int)) cs):=⟨λh=>f252 (by
 unfold s252;have h0:=x.h0;have h1:=x.row.len;have h2:=x.h2;have h3:=x.h3;refine go (keq h ?_);rw [zad (by omega)];congr 1;omega)⟩
theorem zw3:∀(l:List (List UInt8)) (i:Nat) (out:Pats) {j:Nat} {e:Int},aGo l i out= .error (j,e)→e≠0
 | [],_,_,_,_,h=>by rw [aGo]at h;cases h
 | s::l,i,out,j,e,h=>by
  rw [aGo]at h;split at h
  ·rename_i p e' hp;cases h;exact zcj hp
  ·exact zw3 l _ _ h
theorem zzg {l:List (List UInt8)} {j:Nat} {e:Int} (h:aNew l= .error (j,e)):e≠0:=by
 unfold aNew at h;split at h
 ·cases h;decide
 ·exact zw3 _ _ _ h
instance c325 [o:Ob holdC cs b x put] {a:Option Addr} {n c:Nat} {ps:List ByteArray} {d:Chunk} [r:Row 9 1 a n c encS ps d]:Go1 (fn 325 [.pointer (some (ad b 0)),.slice a n c] K (d::cs))
  (((∀s∈ps,s.size≤1000000000000)∧n<1000000000)∧(∀i e,aNew (ps.map bl)= .error (i,e)→K (.int .i64 e) (d::cs))∧
   ∀m,aNew (ps.map bl)= .ok m→∀x',Hd.win x'=x.win→x'.b=x.b→x'.seen=0→x'.m=some m→K (.int .i64 0) (d::put (holdC b x'))):=⟨λh=>
 o.fnH d [bk b 436 [.int .i64 x.win,.slice x.a x.n x.c,.int .i64 x.seen,.slice x.pa x.pn x.pc,.pointer (arP x.ar)],x.ch,arCh x.ar] (by simp [holdC]) λF=>f325 (by
 obtain⟨⟨h1,h2⟩,he,hk⟩:=h;simp only [JI,JF];unfold s325;refine go ⟨⟨h1,by omega⟩,λi e hn=>⟨λc1=> ?_,λc1=> ?_⟩,λm hm b1 y hy=>⟨λc1=>(by simp at c1),λ_=>⟨h2,λa' n' c'=> ?_⟩⟩⟩
 ·have:=he i e hn
  rw [←o.same]at this;refine⟨[_,_,_],Imp.refl _,?_⟩;simpa [holdC]using this
 ·exact absurd (by simpa using c1) (zzg hn)
 ·have hh:=hk m hm ⟨x.win,x.a,x.n,x.c,x.b,x.ch,x.row,0,a',n',c',some (b1,y),JJ _,x.h1,x.h2,x.h3⟩ rfl rfl rfl (by simp [Hd.m,hy]);refine⟨[bk b 436 [.int .i64 x.win,.slice x.a x.n x.c,.int .i64 0,.slice a' n' c',.pointer (some (ad b1 0))],x.ch,armsC b1 y],?_,by simpa [holdC,arP,arCh]using hh⟩;simp only [JI,JF];exact drp)⟩
instance c432 [o:Ob holdC cs b x put]:Go1 (fn 432 [.pointer (some (ad b 0))] K cs)
  (x.seen<x.b.length∧∃m,x.m=some m∧∀x',Hd.win x'=x.win→x'.b=x.b→x'.seen=x.seen+1→x'.m=some (aFeed m (x.b.getD x.seen 0).toNat)→
   K (zls (zfa (aFeed m (x.b.getD x.seen 0).toNat))) (put (holdC b x'))):=⟨λh=>by
 obtain⟨hs,m,hm,h⟩:=h;obtain⟨y,hy⟩:∃y,x.ar=some y:=by
  cases ha:x.ar with
  | none=>simp [Hd.m,ha]at hm
  | some y=>exact⟨y,rfl⟩
 have hym:y.2.m=m:=by simpa [Hd.m,hy]using hm
 refine o.fn3 (bk b 436 [.int .i64 x.win,.slice x.a x.n x.c,.int .i64 x.seen,.slice x.pa x.pn x.pc,.pointer (some (ad y.1 0))]) x.ch (armsC y.1 y.2) (by simp [holdC,hy,arP,arCh]) λF=>f432 ?_;unfold s432;have hr:=x.row;have hlen:=x.row.len;have h2:=x.h2;have h3:=x.h3;refine go ?_;have w1:w64 (w64 ((x.seen:Int)+1)-1)=(x.seen:Int):=by rw [zad (n:=(x.seen:Int)+1) (by omega),zad (by omega)];omega
 have w2:w64 ((x.seen:Int)+1)=((x.seen+1:Nat):Int):=by rw [zad (by omega)];rfl
 rw [w1,w2,JE];refine⟨⟨by omega,by omega⟩,λz hz=> ?_⟩;have hz2:x.b.getD x.seen 0=z:=by rw [JA,hz];rfl
 rw [hz2]at h;refine go ⟨UInt8.toNat_lt _,λy' hy'=> ?_⟩;have hh:=h ⟨x.win,x.a,x.n,x.c,x.b,x.ch,x.row,x.seen+1,x.pa,x.pn,x.pc,some (y.1,y'),by omega,x.h1,x.h2,x.h3⟩ rfl rfl rfl (by simp [Hd.m,hy',hym]);rw [hym];simp only [holdC,arP,arCh]at hh;cases hf:zfa (aFeed m z.toNat)with
 | none=>
  rw [hf]at hh;simp only [zls]at hh ⊢;exact go ⟨_,_,_,Imp.refl _,hh⟩
 | some j=>
  rw [hf]at hh;simp only [zls]at hh ⊢;exact go ⟨_,_,_,Imp.refl _,hh⟩⟩
instance c433 [o:Ob holdC cs b x put] {n:Nat}:Go1 (fn 433 [.pointer (some (ad b 0)),.int .i64 (n:Int)] K cs)
  (n≤x.b.length∧∃m,x.m=some m∧∀x',Hd.win x'=x.win→x'.b=x.b.drop n→x'.seen=0→x'.m=some (zkt m)→K undef (put (holdC b x'))):=⟨λh=>by
 obtain⟨hs,m,hm,h⟩:=h;obtain⟨y,hy⟩:∃y,x.ar=some y:=by
  cases ha:x.ar with
  | none=>simp [Hd.m,ha]at hm
  | some y=>exact⟨y,rfl⟩
 have hym:y.2.m=m:=by simpa [Hd.m,hy]using hm
 refine o.fn3 (bk b 436 [.int .i64 x.win,.slice x.a x.n x.c,.int .i64 x.seen,.slice x.pa x.pn x.pc,.pointer (some (ad y.1 0))]) x.ch (armsC y.1 y.2) (by simp [holdC,hy,arP,arCh]) λF=>f433 ?_;unfold s433;have hr:=x.row;have hlen:=x.row.len;have h2:=x.h2;have h3:=x.h3;refine go ⟨⟨by omega,by omega⟩,λa' r'=> ?_⟩;rw [JE]at r' ⊢;have h1:=x.h1;have fin0:∀(a2:Option Addr) (c2:Nat) (ch2:Chunk) (y':Ar),Row 5 1 a2 (x.n-n) c2 encB (x.b.drop n) ch2→y'.m=zkt y.2.m→K undef (put (bk b 436 [.int .i64 x.win,.slice a2 (x.n-n) c2,.int .i64 0,.slice x.pa x.pn x.pc,.pointer (some (ad y.1 0))]++(ch2++armsC y.1 y'))):=by
  intro a2 c2 ch2 y' r2 hy';have hh:=h ⟨x.win,a2,x.n-n,c2,x.b.drop n,ch2,r2,0,x.pa,x.pn,x.pc,some (y.1,y'),JJ _,x.h1,x.h2,by rw [Jb];omega⟩ rfl rfl rfl (by simp [Hd.m,hy',hym]);simp only [holdC,arP,arCh]at hh;exact hh
 by_cases h0:x.n-n=0
 ·rw [h0]at r' fin0 ⊢;have e:x.b.drop n=[]:=Je (by omega);refine zi3 inferInstance (JG _) (go λy' hy'=> ?_);exact⟨_,_,_,Imp.refl _,fin0 x.a 0 x.ch y' (by rw [e];exact⟨Sl.nil⟩) hy'⟩
 ·have rw':Rw 5 1 (bk b 436 [.int .i64 x.win,.slice x.a x.n x.c,.int .i64 x.seen,.slice x.pa x.pn x.pc,.pointer (some (ad y.1 0))]::x.ch::armsC y.1 y.2::F) a' (x.n-n) (x.c-n) encB (x.b.drop n):=inferInstance;obtain⟨b2,rfl,hrd⟩:=zdn rw'.h (by omega);refine zkp 1 rfl (Sl.nil (T:=5) (sz:=1)) (bytes:=1) (news:=(x.b.drop n).flatMap encB.f) (by rw [encB.flat_len,Jb,hlen]) hrd (λu hu=> ?_) (by omega) (by omega) (by omega) (λv' ch' hs=> ?_) (by kernel_rfl)
  ·obtain⟨s,_,hs⟩:=List.mem_flatMap.1 hu;simp at hs;subst hs;rfl
  ·obtain⟨a2,c2,rfl⟩:=hs.val;simp only [List.set_cons_succ,List.set_cons_zero,Nat.zero_add,JF]at hs ⊢;refine go λy' hy'=> ?_;exact⟨_,_,_,Imp.refl _,fin0 a2 c2 ch' y' ⟨hs⟩ hy'⟩⟩
end
class Ob2 {X Y:Type} (C:Nat→X→Chunk) (D:Nat→Y→Chunk) (cs:St) (b:Nat) (x:outParam X) (d:Nat) (y:outParam Y) (put:outParam (Chunk→Chunk→St)):Prop where
 h:∃i j,i≠j∧cs[i]? =some (C b x)∧cs[j]? =some (D d y)∧∀c e,put c e=(cs.set j e).set i c
section
variable {X Y:Type} {C:Nat→X→Chunk} {D:Nat→Y→Chunk} {cs:St} {b d:Nat} {x:X} {y:Y}
instance {p:Chunk→St} [o:Ob C cs b x p]:Ob2 C D (D d y::cs) b x d y (λc e=>e::p c):=⟨by
 obtain⟨j,h1,h2⟩:=o.h;exact⟨j+1,0,by omega,h1,rfl,λc e=>by simp [h2]⟩⟩
instance {p:Chunk→Chunk→St} {k:Chunk} [o:Ob2 C D cs b x d y p]:Ob2 C D (k::cs) b x d y (λc e=>k::p c e):=⟨by
 obtain⟨i,j,h0,h1,h2,h3⟩:=o.h;exact⟨i+1,j+1,by omega,h1,h2,λc e=>by simp [h3]⟩⟩
theorem Ob2.fn {put:Chunk→Chunk→St} (o:Ob2 C D cs b x d y put) {g:FuncId} {args:List Value} {K:Value→SP}
  (h:∀F,Go.Proofs.YtbjlfobjngogkaaGreatDoor.fn g args (λv c=>∃q1 q2,Imp c (q1::q2::F)∧K v (put q1 q2)) (C b x::D d y::F)):Go.Proofs.YtbjlfobjngogkaaGreatDoor.fn g args K cs:=by
 obtain⟨i,j,h0,h1,h2,h3⟩:=o.h;have e1:(cs.set j [])[i]? =some (C b x):=by rw [JS (Ne.symm h0)];exact h1
 have p1:Imp cs (D d y::cs.set j []):=Imp.part (parts:=[D d y]) (by simpa using h2);have p2:Imp (D d y::cs.set j []) (C b x::D d y::(cs.set j []).set i []):=Imp.part (i:=i+1) (parts:=[C b x]) (cs:=D d y::cs.set j []) (by simpa using e1);refine fn_up (p1.trans p2) (zdd (λv c ⟨q1,q2,g1,g2⟩=>⟨put q1 q2,g1.trans ?_,g2⟩) (h ((cs.set j []).set i [])));have r1:Imp (q1::q2::(cs.set j []).set i []) (q2::(cs.set j []).set i q1):=by
  have:=Imp.join (front:=[q2]) (parts:=[q1]) (cs:=cs.set j []) (i:=i) (by rw [JK];exact zaa h1)
  have e:Imp (q1::q2::(cs.set j []).set i []) (q2::q1::(cs.set j []).set i []):=drp;exact e.trans (by simpa using this)
 have r2:Imp (q2::(cs.set j []).set i q1) ((cs.set i q1).set j q2):=by
  have:=Imp.join (front:=[]) (parts:=[q2]) (cs:=cs.set i q1) (i:=j) (by rw [JK];exact zaa h2)
  rw [List.set_comm _ _ h0]at this;simpa using this
 have e9:(cs.set j q2).set i q1=(cs.set i q1).set j q2:=List.set_comm _ _ (Ne.symm h0);rw [h3,e9];exact r1.trans r2
end
theorem st_up {t:TypeId} {a:Addr} {v:Value} {K:SP} {cs:St} (h:st t a v (λc=>∃c',Imp c c'∧K c') cs):st t a v K cs:=by
 cases h with
 | mk h=>exact⟨λE w hw=>by obtain⟨v,w',cs',h1,h2,c',h3,h4⟩:=h E w hw;exact⟨v,w',c',h1,h3 E w' h2,h4⟩⟩
theorem znt {s:Sem Value} {K:Value→SP} {cs cs':St} (hi:Imp cs cs') (h:sm s K cs'):sm s K cs:=by
 cases h with
 | mk h=>exact⟨λE w hw=>h E w (hi E w hw)⟩
instance (priority:=6000) holdPush {cs:St} {b q:Nat} {x:Hd} {put:Chunk→St} {k:UInt8} {K:SP} [o:Ob holdC cs b x put] [rq:RdB cs q 5 [.int .u8 (k.toNat:Nat)]]:
  Go1 (sm (Builtin.append_ ⟨[110,110]⟩ 110 ⟨[.slice x.a x.n x.c,.slice (some (ad q 0)) 1 1]⟩) (λv=>unL v λa n c=>st 110 ((ad b 0).add 1) (.slice a n c) K) cs)
   ((x.b.length:Int)<x.win∧∀x',Hd.win x'=x.win→x'.b=x.b++[k]→x'.seen=x.seen→x'.m=x.m→K (put (holdC b x'))):=⟨λ⟨hw,h⟩=>by
 obtain⟨i,h1,h2⟩:=o.h;have hlen:=x.row.len;have hb:=x.h2;have hp:Imp cs ([bk b 436 [.int .i64 x.win,.slice x.a x.n x.c,.int .i64 x.seen,.slice x.pa x.pn x.pc,.pointer (arP x.ar)],x.ch,arCh x.ar]++cs.set i []):=Imp.part (by rw [h1];simp [holdC]);refine znt hp ?_;simp only [JI,JF];have r0:=x.row;refine zkp 1 rfl r0.h (bytes:=1) (news:=[.int .u8 (k.toNat:Nat)]) rfl (λE w hw j u hu=> ?_) (λu hu=> ?_) (by omega) (by omega) (by omega) (λv' ch' hs=> ?_) (by kernel_rfl)
 ·have hj:=Imp.join (front:=[]) (parts:=[bk b 436 [.int .i64 x.win,.slice x.a x.n x.c,.int .i64 x.seen,.slice x.pa x.pn x.pc,.pointer (arP x.ar)],x.ch,arCh x.ar]) (cs:=cs) (i:=i) (zaa h1);have hb2:=o.same;rw [h2]at hb2;have hw2:=hj E w (by simpa using hw);have e:[bk b 436 [.int .i64 x.win,.slice x.a x.n x.c,.int .i64 x.seen,.slice x.pa x.pn x.pc,.pointer (arP x.ar)],x.ch,arCh x.ar].flatten=holdC b x:=by simp [holdC]
  rw [e,JF,hb2]at hw2;rw [zbd,rq.h.cell hw2,Nat.zero_add,hu]
 ·simp at hu;subst hu;rfl
 ·obtain⟨a2,c2,rfl⟩:=hs.val;simp only [List.set_cons_succ,List.set_cons_zero];refine⟨_,_,_,rfl,st_up (go ?_)⟩;have hrow:Row 5 1 a2 (x.n+1) c2 encB (x.b++[k]) ch':=⟨by rw [QM];exact hs⟩;have hh:=h ⟨x.win,a2,x.n+1,c2,x.b++[k],ch',hrow,x.seen,x.pa,x.pn,x.pc,x.ar,by have:=x.h0;simp;omega,x.h1,x.h2,by simp;omega⟩ rfl rfl rfl rfl;rw [h2]at hh;refine⟨_,?_,hh⟩;exact Imp.trans (Imp.refl _) (by
   have hj:=Imp.join (front:=[]) (parts:=[bk b 436 [.int .i64 x.win,.slice a2 (x.n+1) c2,.int .i64 x.seen,.slice x.pa x.pn x.pc,.pointer (arP x.ar)],ch',arCh x.ar]) (cs:=cs) (i:=i) (zaa h1);simpa [holdC]using hj)⟩
def fndL (f:Fnd):List Value:=[.bool f.mat,.bool f.full,.int .i64 (f.arm:Nat),.int .i64 (f.gone:Nat),.int .i64 (f.read:Nat)]
section
variable {cs:St} {b rb:Nat} {x:Hd} {r:Rg} {put:Chunk→Chunk→St} {K:Value→SP}
instance c418 [o:Ob2 holdC ringC cs b x rb r put]:Go1 (fn 418 [.pointer (some (ad b 0)),.pointer (some (ad rb 0))] K cs)
  (∃m,x.m=some m∧∀x' r',Hd.win x'=x.win→x'.b=(hlook x.win ⟨x.b,x.seen,m,r.q⟩).2.b→x'.seen=(hlook x.win ⟨x.b,x.seen,m,r.q⟩).2.seen→x'.m=some (hlook x.win ⟨x.b,x.seen,m,r.q⟩).2.m→
   r'.q=(hlook x.win ⟨x.b,x.seen,m,r.q⟩).2.r→r'.buf.length=r.buf.length→K (.agg ⟨fndL (hlook x.win ⟨x.b,x.seen,m,r.q⟩).1⟩) (put (holdC b x') (ringC rb r'))):=⟨λ⟨m,hm,h⟩=>o.fn λF=>f418 (by
 unfold s418;refine go λb1 b2=> ?_;refine lp (λ_:Hd×Rg×Pats×Nat×Nat=>[]) (λy=>bk b2 514 [.bool false,.bool false,.int .i64 0,.int .i64 0,.int .i64 (y.2.2.2.1:Nat)]::bk b1 514 [.bool false,.bool false,.int .i64 0,.int .i64 0,.int .i64 0]::holdC b y.1::ringC rb y.2.1::F)
  (λy=>y.1.win=x.win∧y.1.m=some y.2.2.1∧hLook x.win y.2.2.2.2 ⟨y.1.b,y.1.seen,y.2.2.1,y.2.1.q⟩ y.2.2.2.1=hlook x.win ⟨x.b,x.seen,m,r.q⟩∧y.1.b.length-y.1.seen+y.2.1.q.length+1≤y.2.2.2.2∧y.2.1.buf.length=r.buf.length∧y.2.2.2.1+y.2.1.q.length≤r.q.length) (λy=>y.2.2.2.2)
  (x,r,m,0,x.b.length-x.seen+r.q.length+1) rfl drp ⟨rfl,hm,rfl,JG _,rfl,by simp⟩ ?_
 rintro⟨xh,rr,mm,rd,f⟩ ⟨i1,i2,i3,i4,i5,i6⟩;dsimp only at *;have hrow:=xh.row.len;have hseen:=xh.h0;obtain⟨f',rfl⟩:∃f',f=f'+1:=⟨f-1,by omega⟩;have hr4:=r.q_length;have hr5:=r.h3;have hr6:=r.h1;refine⟨λ_ c=>∃(xh':Hd) (rr':Rg) (rd':Nat),Imp c (bk b2 514 [.bool false,.bool false,.int .i64 0,.int .i64 0,.int .i64 (rd':Nat)]::bk b1 514 [.bool false,.bool false,.int .i64 0,.int .i64 0,.int .i64 0]::holdC b xh'::ringC rb rr'::F)∧
  xh'.win=x.win∧xh'.m=some mm∧xh'.seen<xh'.b.length∧hFeed (hLook x.win f') mm xh'.seen xh'.b rr'.q rd'=hlook x.win ⟨x.b,x.seen,m,r.q⟩∧xh'.b.length-(xh'.seen+1)+rr'.q.length+1≤f'∧rr'.buf.length=r.buf.length∧rd'+rr'.q.length≤r.q.length,?_,?_⟩
 ·rintro l c ⟨xh',rr',rd',hi,j1,j2,j3,j4,j5,j6,j7⟩;refine⟨_,hi,?_⟩;refine go ⟨j3,mm,j2,λx' q1 q2 q3 q4=> ?_⟩;simp only [hFeed]at j4;cases hf:zfa (aFeed mm (xh'.b.getD xh'.seen 0).toNat)with
  | none=>
   rw [hf]at j4;simp only [zls];refine go ⟨(x',rr',aFeed mm (xh'.b.getD xh'.seen 0).toNat,rd',f'),trivial,drp,⟨by rw [q1,j1],q4,?_,?_,j6,j7⟩,by simp only;omega⟩
   ·simp only at j4 ⊢;rw [q2,q3];exact j4
   ·simp only;rw [q2,q3];exact j5
  | some kk=>
   rw [hf]at j4;simp only [zls];refine go ⟨by rw [q2,q3];omega,_,q4,λx'' p1 p2 p3 p4=> ?_⟩;simp only at j4;rw [←j4]at h;have hh:=h x'' rr' (by rw [p1,q1,j1]) (by rw [p2,q2,q3]) p3 p4 rfl j6;rw [q3];exact⟨_,_,drp,hh⟩
 ·have hrq:=rr.q_length;refine go ?_;simp only [Jd,JL,ne_eq];unfold hLook at i3;refine⟨λc1=>⟨λc2=> ?_,λc2=>⟨λc3=> ?_,λc3 rr2 e1 e2=> ?_⟩⟩,λc1=> ?_⟩
  ·have g1:xh.seen=xh.b.length:=by omega
   have g2:rr.q=[]:=List.length_eq_zero_iff.1 (by omega);simp only [g1,g2,if_true]at i3;have hh:=h xh rr i1 (by rw [←i3]) (by rw [←i3];exact g1) (by rw [←i3];exact i2) (by rw [←i3];exact g2) i5;rw [←i3]at hh;exact⟨_,_,drp,hh⟩
  ·have g1:xh.seen=xh.b.length:=by omega
   cases hq:rr.q with
   | nil=>rw [hq]at hrq;simp at hrq;omega
   | cons k q'=>
    have g3:(xh.b.length:Int)=x.win:=by omega
    simp only [g1,hq,g3,if_true]at i3;have hh:=h xh rr i1 (by rw [←i3]) (by rw [←i3];exact g1) (by rw [←i3];exact i2) (by rw [←i3];exact hq) i5;rw [←i3]at hh;exact⟨_,_,drp,hh⟩
  ·have g1:xh.seen=xh.b.length:=by omega
   cases hq:rr.q with
   | nil=>rw [hq]at hrq;simp at hrq;omega
   | cons k q'=>
    have g0:(min (max 1 0) (rr.n:Int)).toNat=1:=by rw [hq]at hrq;simp at hrq;omega
    have g3:¬(xh.b.length:Int)=x.win:=by omega
    have g4:=xh.h3;rw [g0,hq]at e1;rw [g0];simp only [g1,hq,g3,if_true,if_false]at i3;have g5:sat (sb (List.take 1 (k::q'))) 0=((k.toNat:Nat):Int):=rfl;rw [g5];refine⟨⟨by omega,by simp [zp0]⟩,by decide,λq=> ?_⟩;refine go ⟨by omega,λx' p1 p2 p3 p4=> ?_⟩;have w1:w64 ((rd:Int)+1)=((rd+1:Nat):Int):=by rw [hq]at i6;simp at i6;rw [zad (by omega)];rfl
    rw [w1];have e3:rr2.q=q':=by simpa using e1
    refine⟨x',rr2,rd+1,drp,by rw [p1,i1],by rw [p4,i2],by rw [p2,p3];simp;omega,?_,?_,by rw [e2,i5],?_⟩
    ·rw [p2,p3,e3,g1];exact i3
    ·rw [p2,p3,e3];rw [hq]at i4;simp at i4 ⊢;omega
    ·rw [e3];rw [hq]at i6;simp at i6;omega
  ·have g1:¬xh.seen=xh.b.length:=by omega
   simp only [g1,if_false]at i3;exact⟨xh,rr,rd,drp,i1,i2,by omega,i3,by omega,i5,i6⟩)⟩
end
end Go.Proofs.YtbjlfobjngogkaaGreatDoor
namespace Go.Proofs.YtbjlfobjngogkaaGreatDoor
structure ArmM where
 pat:ByteArray
 to:Int
structure OpM where
 kind:Int
 text:ByteArray
 n:Int
 to:Int
 arms:List ArmM
 onT:Int
 onE:Int
structure PrM where
 name:ByteArray
 dl:Int
 jumps:Int
 ops:List OpM
def PrM.zero:PrM:=⟨.empty,0,0,[]⟩
def OpM.zero:OpM:=⟨0,.empty,0,0,[],0,0⟩
def OpM.Fit (o:OpM):Prop:=o.text.size≤1000000000000∧o.arms.length≤1000000000∧∀m∈o.arms,m.pat.size≤1000000000000
def PrM.Fit (p:PrM):Prop:=p.name.size≤1000000000000∧p.ops.length≤1000000000∧∀o∈p.ops,o.Fit
def comes (p:PrM) (t:Int):Bool:=decide (0≤t)&&decide (t≤p.ops.length)
def bareO (o:OpM):OpM:=
 if o.kind=1 then{OpM.zero with kind:=o.kind,text:=o.text}
 else if o.kind=2 then{OpM.zero with kind:=o.kind,n:=o.n,arms:=o.arms,onT:=o.onT,onE:=o.onE}
 else if o.kind=3 then{OpM.zero with kind:=o.kind,to:=o.to}
 else if o.kind=4 then{OpM.zero with kind:=o.kind,n:=o.n}
 else{OpM.zero with kind:=o.kind}
def sameA (a b:ArmM):Bool:=a.pat == b.pat&&a.to == b.to
def sameL:List ArmM→List ArmM→Bool
 | [],[]=>true
 | a::l,b::m=>sameA a b&&sameL l m
 | _,_=>false
def sameO (a b:OpM):Bool:=(a.kind == b.kind&&a.text == b.text&&a.n == b.n&&a.to == b.to&&a.onT == b.onT&&a.onE == b.onE)&&sameL a.arms b.arms
def zbr:List Int→Int
 | []=>0
 | e::l=>if e≠0 then e else zbr l
def zcy (n a b:Int):Bool:=decide (a≤n)&&decide (n≤b)
def armE (p:PrM) (m:ArmM):Int:=
 if m.pat.size>64 then 4 else match za7 m.pat.data.toList with
 | .error (_,e)=>e
 | .ok _=>if comes p m.to then 0 else 13
def jumpE (p:PrM) (t:Int):Int:=if t≠-1∧comes p t=false then 13 else 0
def expE (p:PrM) (o:OpM):Int:=
 if o.n≠never∧zcy o.n 0 1000000000000=false then 12
 else if o.arms.length>8 then 4
 else if zbr (o.arms.map (armE p))≠0 then zbr (o.arms.map (armE p))
 else zbr [jumpE p o.onT,jumpE p o.onE]
def opE (p:PrM) (o:OpM):Int:=
 if o.kind<1∨o.kind>6 then 11
 else if sameO o (bareO o)=false then 2
 else if o.kind=1 then(if o.text.size=0 then 9 else if o.text.size>256 then 4 else 0)
 else if o.kind=2 then expE p o
 else if o.kind=3 then(if comes p o.to=false then 13 else 0)
 else if o.kind=4 then(if zcy o.n 0 1000000000000=false then 12 else 0)
 else 0
def zf1 (s:List UInt8):Bool:=
 decide (0<s.length)&&decide (s.length≤16)&&decide (97≤(s.getD 0 0).toNat)&&s.all λc=> !((decide (c.toNat<97)||decide (c.toNat>122))&&(decide (c.toNat<48)||decide (c.toNat>57)))
def zi4 (p:PrM):Int:=
 if zf1 p.name.data.toList=false then 10
 else if(p.dl≠never∧zcy p.dl 1 1000000000000=false)∨zcy p.jumps 0 1000=false then 12
 else if p.ops.length>200 then 4
 else zbr (p.ops.map (opE p))
def goodP (p:PrM):Bool:=zi4 p == 0
end Go.Proofs.YtbjlfobjngogkaaGreatDoor
namespace Go.Proofs.YtbjlfobjngogkaaGreatDoor
open Go
set_option synthInstance.maxSize 100000
set_option synthInstance.maxHeartbeats 1000000
set_option maxRecDepth 100000
@[reducible] def zbg:Enc ArmM 2:=⟨λm=>[.string m.pat,.int .i64 m.to],by omega,λ_=>rfl⟩
abbrev OpV:=OpM×Option Addr×Nat×Nat
@[reducible] def zas (o:OpM) (a:Option Addr) (n c:Nat):List Value:=[.int .i64 o.kind,.string o.text,.int .i64 o.n,.int .i64 o.to,.slice a n c,.int .i64 o.onT,.int .i64 o.onE]
@[reducible] def encOp:Enc OpV 7:=⟨λx=>zas x.1 x.2.1 x.2.2.1 x.2.2.2,by omega,λ_=>rfl⟩
@[reducible] def za9 (p:PrM) (a:Option Addr) (n c:Nat):List Value:=[.string p.name,.int .i64 p.dl,.int .i64 p.jumps,.slice a n c]
class OpR (cs:St) (v:List Value) (o:outParam OpM):Prop where
 h:∃a n c,v=zas o a n c∧RdS cs zbg a n c o.arms
class PrR (cs:St) (v:List Value) (p:outParam PrM):Prop where
 h:∃a n c L,v=za9 p a n c∧RdS cs encOp a n c L∧L.map Prod.fst=p.ops∧∀x∈L,RdS cs zbg x.2.1 x.2.2.1 x.2.2.2 x.1.arms
instance (priority:=50) opThere {cs:St} {v:List Value} {o:OpM} {d:Chunk} [r:OpR cs v o]:OpR (d::cs) v o:=⟨by
 obtain⟨a,n,c,h1,h2⟩:=r.h;exact⟨a,n,c,h1,h2.cons⟩⟩
instance (priority:=50) prThere {cs:St} {v:List Value} {p:PrM} {d:Chunk} [r:PrR cs v p]:PrR (d::cs) v p:=⟨by
 obtain⟨a,n,c,L,h1,h2,h3,h4⟩:=r.h;exact⟨a,n,c,L,h1,h2.cons,h3,λx hx=>(h4 x hx).cons⟩⟩
theorem zbx {α:Type} {sz:Nat} {cs:St} {e:Enc α sz} {a:Option Addr}:RdS cs e a 0 0 []:=⟨rfl,JG _,λh=>absurd h (Nat.lt_irrefl 0)⟩
theorem zae {i:Nat} (h:i≤1000000000000000):w64 ((i:Int)+1)=((i+1:Nat):Int):=by rw [zad (by omega)];rfl
theorem bl_eq (s t:ByteArray):(s.toList == t.toList)=(s == t):=(beq_toListBytes s t).symm
theorem size0 (s:ByteArray):(s.toList == (bs []).toList)=decide (s.size=0):=zc6 s
def fKey (f:Field):Bool×Nat×Nat:=(f.name != "_",f.type,f.offset)
def eqK (d:Nat) (xs ys:Array Value):List (Bool×Nat×Nat)→Sem Bool
 | []=>pure true
 | f::fs=>
  if f.1=true then do
   let a←part f.2.1 xs f.2.2
   let b←part f.2.1 ys f.2.2
   let r←Op.equalIn d f.2.1 a b
   if(!r)=true then pure false else eqK d xs ys fs
  else eqK d xs ys fs
theorem zik (d:Nat) (xs ys:Array Value):∀fs:List Field,Op.eqFields d xs ys fs=eqK d xs ys (fs.map fKey)
 | []=>rfl
 | f::fs=>by
  simp only [Op.eqFields,Jf,eqK,fKey,zik d xs ys fs,QJ,ne_eq]
class StrT (t:Nat) (fs:outParam (List (Bool×Nat×Nat))):Prop where
 h:((match Tryz.prog.underlying t with | some (.struct a)=>decide (a.toList.map fKey=fs) | _=>false)&& !(Tryz.prog.stoodInHeld t)&& !(Tryz.prog.eqGuardType Tryz.prog.depth t))=true
theorem zk4 {t:Nat} {fs:List (Bool×Nat×Nat)} (p:StrT t fs):Tryz.prog.underlying t=some (.struct (Tryz.prog.fieldsOf t))∧(Tryz.prog.fieldsOf t).toList.map fKey=fs∧Tryz.prog.stoodInHeld t=false∧Tryz.prog.eqGuardType Tryz.prog.depth t=false:=by
 have h:=p.h;simp only [JT,Jc]at h;obtain⟨⟨h1,h2⟩,h3⟩:=h;split at h1
 ·rename_i a ha;unfold Program.fieldsOf;rw [ha];exact⟨rfl,of_decide_eq_true h1,h2,h3⟩
 ·cases h1
class EqK (d:Nat) (xs ys:List Value) (fs:List (Bool×Nat×Nat)) (b:outParam Bool):Prop where
 h:∀w:World,(eqK d ⟨xs⟩ ⟨ys⟩ fs).run Tryz.prog w= .ok b w
instance {d:Nat} {xs ys:List Value}:EqK d xs ys [] true:=⟨λ_=>rfl⟩
class Plk (t:Nat):Prop where
 h:Tryz.prog.plainKey t=true
class EqV (d:Nat) (t:Nat) (x y:Value) (b:outParam Bool):Prop where
 h:∀w:World,(Op.equalIn d t x y).run Tryz.prog w= .ok b w
class UnI (t:Nat) (k:outParam IntKind):Prop where
 h:Tryz.prog.underlying t=some (.int k)
class UnS (t:Nat):Prop where
 h:Tryz.prog.underlying t=some .string
instance {d t:Nat} {k k':IntKind} {a b:Int} [u:UnI t k']:EqV (d+1) t (.int k a) (.int k b) (a == b):=⟨λw=>run_equalIn_int w d t k k' a b u.h⟩
instance {d t:Nat} {a b:ByteArray} [u:UnS t]:EqV (d+1) t (.string a) (.string b) (a == b):=⟨λw=>by rw [run_equalIn_string w d t a b u.h,bl_eq]⟩
instance {d t o:Nat} {xs ys:List Value} {x y:Value} {fs:List (Bool×Nat×Nat)} {b c:Bool} [p:Plk t] [g1:Get xs o x] [g2:Get ys o y] [e:EqV d t x y b] [r:EqK d xs ys fs c]:EqK d xs ys ((true,t,o)::fs) (b&&c):=⟨λw=>by
 have h1:(⟨xs⟩:Array Value)[o]? =some x:=by simpa using g1.h
 have h2:(⟨ys⟩:Array Value)[o]? =some y:=by simpa using g2.h
 simp only [eqK,if_true,Sem.run_bind,run_part_plain w p.h h1,run_part_plain w p.h h2,Result.andThen_ok,e.h w];cases b
 ·simp
 ·simpa using r.h w⟩
instance:Plk 3:=⟨by kernel_rfl⟩
instance:Plk 9:=⟨by kernel_rfl⟩
instance:UnI 3 .i64:=⟨Tryz.underlying3⟩
instance:UnS 9:=⟨Tryz.underlying9⟩
instance:StrT 146 [(true,9,0),(true,3,1)]:=⟨by kernel_rfl⟩
theorem ztj {d t:Nat} {xs ys:List Value} {fs:List (Bool×Nat×Nat)} {b:Bool} (p:StrT t fs) (e:EqK d xs ys fs b) (w:World):(Op.equalIn (d+1) t (.agg ⟨xs⟩) (.agg ⟨ys⟩)).run Tryz.prog w= .ok b w:=by
 obtain⟨h1,h2,h3,_⟩:=zk4 p;rw [run_equalIn_agg w d t _ _ h1 h3,zik,h2];exact e.h w
instance {cs:St} {K:Value→SP} {t:Nat} {x y:Operand} {xs ys:List Value} {fs:List (Bool×Nat×Nat)} {b:Bool} [p:StrT t fs] [e:EqK 9999 xs ys fs b]:Go1 (qy (bsem .neq t x y (.agg ⟨xs⟩) (.agg ⟨ys⟩)) K cs) (K (.bool (!b)) cs):=⟨λh=>by
 refine⟨_,λE w _=> ?_,h⟩;simp only [bsem,Sem.run_bind,run_eqGuard_agg (P:=Tryz.prog) w .neq t x y _ _ (zk4 p).2.2.2,Result.andThen_ok];rw [run_neq_struct,ztj p e w];rfl⟩
class NthF (fs:List (Bool×Nat×Nat)) (i:Nat) (ty off:outParam Nat):Prop where
 h:∃b,fs[i]? =some (b,ty,off)
instance {b:Bool} {ty off:Nat} {fs:List (Bool×Nat×Nat)}:NthF ((b,ty,off)::fs) 0 ty off:=⟨⟨b,rfl⟩⟩
class StrF (t:Nat) (fs:outParam (List (Bool×Nat×Nat))):Prop where
 h:(match Tryz.prog.underlying t with | some (.struct a)=>decide (a.toList.map fKey=fs) | _=>false)=true
theorem zhm {t:Nat} {fs:List (Bool×Nat×Nat)} (p:StrF t fs):Tryz.prog.underlying t=some (.struct (Tryz.prog.fieldsOf t))∧(Tryz.prog.fieldsOf t).toList.map fKey=fs:=by
 have h1:=p.h;split at h1
 ·rename_i a ha;unfold Program.fieldsOf;rw [ha];exact⟨rfl,of_decide_eq_true h1⟩
 ·cases h1
instance {cs:St} {K:Value→SP} {t i ty off:Nat} {xs:List Value} {v:Value} {fs:List (Bool×Nat×Nat)} [p:StrF t fs] [n:NthF fs i ty off] [k:Plk ty] [g:Get xs off v]:Go1 (qy (Instr.field t (.agg ⟨xs⟩) i) K cs) (K v cs):=⟨λh=>by
 obtain⟨h1,h2⟩:=zhm p;obtain⟨b,hb⟩:=n.h;refine⟨v,λE w _=> ?_,h⟩;have g1:(⟨xs⟩:Array Value)[off]? =some v:=by simpa using g.h
 rw [←h2,JW]at hb;obtain⟨f,hf,hk⟩:=QI.1 hb;have hf':(Tryz.prog.fieldsOf t)[i]? =some f:=by simpa using hf
 simp only [fKey,Qm]at hk;obtain⟨_,rfl,rfl⟩:=hk;have e1:(asAgg (.agg ⟨xs⟩)).run Tryz.prog w= .ok ⟨xs⟩ w:=rfl;simp [Instr.field,zaf h1,hf',e1,run_part_plain w k.h g1]⟩
instance:StrF 97 [(true,3,0),(true,9,1),(true,2,2),(true,3,3),(true,95,4),(true,3,5),(true,3,6)]:=⟨by kernel_rfl⟩
section
variable {cs:St} {K:Value→SP}
instance c397 {a a':Option Addr} {n c n' c':Nat} {l l':List ArmM} [r:Rw 146 2 cs a n c zbg l] [r':Rw 146 2 cs a' n' c' zbg l']:Go1 (fn 397 [.slice a n c,.slice a' n' c'] K cs) ((n≤1000000000∧n'≤1000000000)∧K (.bool (sameL l l')) cs):=⟨λ⟨⟨hn,hn'⟩,h⟩=>f397 (by
 unfold s397;have h1:=r.h.len;have h2:=r'.h.len;have hne:∀l l':List ArmM,l.length≠l'.length→sameL l l'=false:=by
  intro l
  induction l with
  | nil=>intro l' h;cases l' with
   | nil=>exact absurd rfl h
   | cons=>rfl
  | cons x l ih=>intro l' h;cases l' with
   | nil=>rfl
   | cons y l'=>simp only [sameL];rw [ih l' (by simpa using h)];simp
 refine go ?_;simp only [QJ,ne_eq,QC];refine⟨λc0=> ?_,λc0=> ?_⟩
 ·rw [hne l l' (by omega)]at h;exact h
 ·refine lp (λi:Nat=>[.int .i64 i]) (λ_=>cs) (λi=>i≤n∧sameL (l.drop i) (l'.drop i)=sameL l l') (λi=>n-i) 0 rfl (Imp.refl _) ⟨JJ _,rfl⟩ ?_;rintro i ⟨i1,i2⟩;refine go ?_;simp only [JD,JB,JE];refine⟨λc1=>⟨by omega,λx hx=>⟨by omega,λy hy=> ?_⟩⟩,λc1=> ?_⟩
  ·have e1:l.drop i=x::l.drop (i+1):=by
    have hi:=zaa hx;rw [JM hi];rw [JC hi]at hx;rw [JQ hx]
   have e2:l'.drop i=y::l'.drop (i+1):=by
    have hi:=zaa hy;rw [JM hi];rw [JC hi]at hy;rw [JQ hy]
   rw [e1,e2,sameL]at i2;have e3:(x.pat == y.pat&&(x.to == y.to&&true))=sameA x y:=by simp [sameA]
   simp only [e3];rw [zae (by omega)];refine go ⟨λc2=> ?_,λc2=>⟨i+1,rfl,Imp.refl _,⟨by omega,?_⟩,by omega⟩⟩
   ·have:sameA x y=false:=by simpa using c2
    rw [this]at i2;rw [←i2]at h;exact h
   ·have:sameA x y=true:=by simpa using c2
    rw [this]at i2;simpa using i2
  ·have e1:l.drop i=[]:=Je (by omega);have e2:l'.drop i=[]:=Je (by omega);rw [e1,e2,sameL]at i2;rw [←i2]at h;exact h)⟩
instance c290 {a b c:Int}:Go1 (fn 290 [.int .i64 a,.int .i64 b,.int .i64 c] K cs) (K (.bool (zcy a b c)) cs):=⟨λh=>f290 (by
 unfold s290;refine go ⟨λc0=>keq h ?_,λc0=>keq h ?_⟩ <;>simp_all [zcy];omega)⟩
instance c291 {a b c:Int}:Go1 (fn 291 [.int .i64 a,.int .i64 b,.int .i64 c] K cs) (K (.bool (zcy a b c)) cs):=⟨λh=>f291 (by
 unfold s291;refine go ⟨λc0=>keq h ?_,λc0=>keq h ?_⟩ <;>simp_all [zcy];omega)⟩
theorem z2i {s:List UInt8} {f:UInt8→Bool} {i:Nat} {x:UInt8} (hx:s[i]? =some x) (h:f x=false):s.all f=false:=by
 rw [List.all_eq_false];exact⟨x,JN hx,by simp [h]⟩
theorem zp1 {s:ByteArray} {i:Nat} (h:i<s.size):∃x:UInt8,(bl s)[i]? =some x∧sat s (i:Int)=(x.toNat:Int):=by
 have h':i<(bl s).length:=h;refine⟨(bl s)[i],JC h',?_⟩;unfold sat;rw [JE,Ja,Jv (show i<s.data.size from h)];rfl
instance c289 {s:ByteArray}:Go1 (fn 289 [.string s] K cs) (K (.bool (zf1 (bl s))) cs):=⟨λh=>f289 (by
 unfold s289;have hlen:=zac s;refine⟨λ_ c=>Imp c cs∧0<s.size∧s.size≤16∧97≤((bl s).getD 0 0).toNat,?_,?_⟩
 ·rintro l c ⟨hi,h1,h2,h3⟩;refine⟨cs,hi,?_⟩;have e0:∀b,((bl s).all λc=> !((decide (c.toNat<97)||decide (c.toNat>122))&&(decide (c.toNat<48)||decide (c.toNat>57))))=b→zf1 (bl s)=b:=by
   intro b hb;unfold zf1;rw [hb];have g1:decide (0<(bl s).length)=true:=by simp [hlen,h1]
   have g2:decide ((bl s).length≤16)=true:=by simp [hlen,h2]
   have g3:decide (97≤((bl s).getD 0 0).toNat)=true:=by simpa using h3
   rw [g1,g2,g3];rfl
  refine lp (λi:Nat=>[.int .i64 i]) (λ_=>cs) (λi=>i≤s.size∧∀j,j<i→∀x,(bl s)[j]? =some x→(!((decide (x.toNat<97)||decide (x.toNat>122))&&(decide (x.toNat<48)||decide (x.toNat>57))))=true) (λi=>s.size-i) 0 rfl (Imp.refl _) ⟨JJ _,λj hj=>absurd hj (Nat.not_lt_zero _)⟩ ?_;rintro i ⟨i1,i2⟩;refine go ?_;simp only [JD,JB];refine⟨λc0=> ?_,λc0=> ?_⟩
  ·obtain⟨x,hx,hs⟩:=zp1 (s:=s) (i:=i) (by omega);rw [hs,zae (by omega)];have nx:∀g:(!((decide (x.toNat<97)||decide (x.toNat>122))&&(decide (x.toNat<48)||decide (x.toNat>57))))=true,∃x',[Value.int .i64 ((i+1:Nat):Int)]=[Value.int .i64 ((x':Nat):Int)]∧Imp cs cs∧(x'≤s.size∧∀j,j<x'→∀y,(bl s)[j]? =some y→(!((decide (y.toNat<97)||decide (y.toNat>122))&&(decide (y.toNat<48)||decide (y.toNat>57))))=true)∧s.size-x'<s.size-i:=by
    intro g;refine⟨i+1,rfl,Imp.refl _,⟨by omega,λj hj y hy=> ?_⟩,by omega⟩;rcases Nat.lt_succ_iff_lt_or_eq.1 hj with hj | hj
    ·exact i2 j hj y hy
    ·subst hj;rw [hx]at hy;cases hy;exact g
   have no:(!((decide (x.toNat<97)||decide (x.toNat>122))&&(decide (x.toNat<48)||decide (x.toNat>57))))=false→K (.bool false) cs:=by
    intro g
    have:=h;rw [e0 false (z2i hx g)]at this;exact this
   refine⟨⟨by omega,by omega⟩,λc1=>⟨⟨by omega,by omega⟩,λc2=>no ?_,λc2=>⟨⟨by omega,by omega⟩,λc3=>no ?_,λc3=>nx ?_⟩⟩,λc1=>⟨⟨by omega,by omega⟩,λc4=>⟨⟨by omega,by omega⟩,λc2=>no ?_,λc2=>⟨⟨by omega,by omega⟩,λc3=>no ?_,λc3=>nx ?_⟩⟩,λc4=>nx ?_⟩⟩
   all_goals simp only [Jc,Jl,JT,Bool.or_eq_true,JD,Bool.and_eq_false_iff,Bool.or_eq_false_iff,JB]
   all_goals omega
  ·have:(bl s).all (λc=> !((decide (c.toNat<97)||decide (c.toNat>122))&&(decide (c.toNat<48)||decide (c.toNat>57))))=true:=by
    rw [List.all_eq_true];intro x hx;obtain⟨j,hj,rfl⟩:=List.mem_iff_getElem.1 hx;exact i2 j (by rw [hlen]at hj;omega) _ (JC hj)
   rw [e0 true this]at h;exact h
 ·refine go ?_;simp only [JD,JB,size0];refine⟨λc0=> ?_,λc0=>⟨λc1=> ?_,λc1=>⟨⟨by omega,by omega⟩,λc2=> ?_,λc2=>⟨Imp.refl _,by omega,by omega,?_⟩⟩⟩⟩
  ·have:zf1 (bl s)=false:=by
    unfold zf1
    have:decide (0<(bl s).length)=false:=by simp [hlen,c0]
    rw [this];rfl
   rw [this]at h;exact h
  ·have:zf1 (bl s)=false:=by
    unfold zf1
    have:decide ((bl s).length≤16)=false:=by rw [JB,hlen];omega
    rw [this];simp
   rw [this]at h;exact h
  ·obtain⟨x,hx,hs⟩:=zp1 (s:=s) (i:=0) (by omega);have hg:(bl s).getD 0 0=x:=by rw [JA,hx];rfl
   have:zf1 (bl s)=false:=by
    unfold zf1
    have:decide (97≤((bl s).getD 0 0).toNat)=false:=by
     rw [JB,hg];have hs:sat s 0=(x.toNat:Int):=hs;omega
    rw [this];simp
   rw [this]at h;exact h
  ·obtain⟨x,hx,hs⟩:=zp1 (s:=s) (i:=0) (by omega);have hg:(bl s).getD 0 0=x:=by rw [JA,hx];rfl
   rw [hg];have hs:sat s 0=(x.toNat:Int):=hs;omega)⟩
instance c360 {v:List Value} {p:PrM} {t:Int} [r:PrR cs v p]:Go1 (fn 360 [.agg ⟨v⟩,.int .i64 t] K cs) (K (.bool (comes p t)) cs):=⟨λh=>up0 (f360 (by
 obtain⟨a,n,c,L,rfl,h2,h3,h4⟩:=r.h;unfold s360;have hn:p.ops.length=n:=by rw [←h3,JR,h2.len]
 refine go λb1=>⟨λc0=>fin (keq h ?_),λc0=>fin (keq h ?_)⟩
 ·simp_all [comes]
 ·simp_all [comes]
  intro _;omega))⟩
instance c358 {v:List Value} {o:OpM} [r:OpR cs v o]:Go1 (fn 358 [.agg ⟨v⟩] K cs) (∀v',OpR cs v' (bareO o)→K (.agg ⟨v'⟩) cs):=⟨λh=>up0 (f358 (by
 obtain⟨a,n,c,rfl,h2⟩:=r.h;unfold s358;have fn':∀(a':Option Addr) (n' c':Nat),RdS cs zbg a' n' c' (bareO o).arms→OpR cs (zas (bareO o) a' n' c') (bareO o):=λa' n' c' hr=>⟨a',n',c',rfl,hr⟩;refine go λb1 b2 b3=> ?_;simp only [Jd,JL,ne_eq];refine⟨λc1=> ?_,λc1=>⟨λc2=> ?_,λc2=>⟨λc3=> ?_,λc3=>⟨λc4=> ?_,λc4=> ?_⟩⟩⟩⟩
 ·refine fin (h _ ⟨none,0,0,?_,?_⟩)
  ·simp [bareO,c1,zas,OpM.zero]
  ·simp [bareO,c1,OpM.zero];exact zbx
 ·refine fin (h _ ⟨a,n,c,?_,?_⟩)
  ·simp [bareO,c1,c2,zas,OpM.zero];rfl
  ·simp [bareO,c1,c2,OpM.zero];exact h2
 ·refine fin (h _ ⟨none,0,0,?_,?_⟩)
  ·simp [bareO,c1,c2,c3,zas,OpM.zero];rfl
  ·simp [bareO,c1,c2,c3,OpM.zero];exact zbx
 ·refine fin (h _ ⟨none,0,0,?_,?_⟩)
  ·simp [bareO,c1,c2,c3,c4,zas,OpM.zero];rfl
  ·simp [bareO,c1,c2,c3,c4,OpM.zero];exact zbx
 ·refine fin (h _ ⟨none,0,0,?_,?_⟩)
  ·simp [bareO,c1,c2,c3,c4,zas,OpM.zero];rfl
  ·simp [bareO,c1,c2,c3,c4,OpM.zero];exact zbx))⟩
instance c357 {v v':List Value} {o o':OpM} [r:OpR cs v o] [r':OpR cs v' o']:Go1 (fn 357 [.agg ⟨v⟩,.agg ⟨v'⟩] K cs) ((o.arms.length≤1000000000∧o'.arms.length≤1000000000)∧K (.bool (sameO o o')) cs):=⟨λ⟨hl,h⟩=>up0 (f357 (by
 obtain⟨a,n,c,rfl,h2⟩:=r.h;obtain⟨a',n',c',rfl,h2'⟩:=r'.h;have rw1:Rw 146 2 cs a n c zbg o.arms:=⟨h2⟩;have rw2:Rw 146 2 cs a' n' c' zbg o'.arms:=⟨h2'⟩;have hn:=h2.len;have hn':=h2'.len;unfold s357;refine goj λb1 b2=> ?_;simp only [bl_eq]
 repeat' (first | apply And.intro | intro _)
 all_goals first | omega | skip
 all_goals (refine fin (keq h ?_);simp_all [sameO])))⟩
instance c398 {v:List Value} {p:PrM} {m:ArmM} [r:PrR cs v p]:Go1 (fn 398 [.agg ⟨v⟩,.agg ⟨[.string m.pat,.int .i64 m.to]⟩] K cs) (m.pat.size≤1000000000000∧K (.int .i64 (armE p m)) cs):=⟨λ⟨hm,h⟩=>up0 (f398 (by
 obtain⟨a,n,c,L,hv,h2,h3,h4⟩:=r.h;subst hv;unfold s398;refine go λb1 b2=> ?_;simp only [gt_iff_lt,JD,JB];refine⟨λc0=>fin (keq h ?_),λc0=>⟨hm,?_⟩⟩
 ·have:m.pat.size>64:=by omega
  simp [armE,this]
 ·have e0:¬m.pat.size>64:=by omega
  unfold armE at h;rw [if_neg e0]at h;unfold zil;have e1:bl m.pat=m.pat.data.toList:=rfl;rw [e1];cases hp:za7 m.pat.data.toList with
  | error x=>
   obtain⟨k,e⟩:=x;rw [hp]at h;dsimp only at h ⊢;refine go ⟨λc1=>fin h,λc1=>absurd ?_ (zcj hp)⟩;simpa using c1
  | ok l=>
   rw [hp]at h;dsimp only at h ⊢;refine go ⟨λc1=>(by simp at c1),λ_=>⟨λc1=>fin (keq h ?_),λc1=>fin (keq h ?_)⟩⟩
   ·have:comes p m.to=false:=by simpa using c1
    simp [this]
   ·have:comes p m.to=true:=by simpa using c1
    simp [this]))⟩
theorem ziu {α:Type} (f:α→Int) {l:List α} {i:Nat} {x:α} (hx:l[i]? =some x):zbr ((l.drop i).map f)=if f x≠0 then f x else zbr ((l.drop (i+1)).map f):=by
 have hi:=zaa hx;rw [JM hi];rw [JC hi]at hx;rw [JQ hx,Jf,zbr]
instance c359 {v v':List Value} {p:PrM} {o:OpM} [r:PrR cs v p] [r':OpR cs v' o]:Go1 (fn 359 [.agg ⟨v⟩,.agg ⟨v'⟩] K cs) (o.Fit∧K (.int .i64 (expE p o)) cs):=⟨λ⟨⟨_,_,hm⟩,h⟩=>up0 (f359 (by
 obtain⟨a,n,c,L,hv,h2,h3,h4⟩:=r.h;obtain⟨a',n',c',hv',h2'⟩:=r'.h;subst hv;subst hv';have rw1:Rw 146 2 cs a' n' c' zbg o.arms:=⟨h2'⟩;have hn':=h2'.len;unfold s359;refine go λb1 b2=> ?_;have key:o.arms.length≤8→¬(o.n≠never∧zcy o.n 0 1000000000000=false)→expE p o=if zbr (o.arms.map (armE p))≠0 then zbr (o.arms.map (armE p))else zbr [jumpE p o.onT,jumpE p o.onE]:=by
  intro k1 k2;unfold expE;rw [if_neg k2,if_neg (by omega)]
 refine⟨λ_ cx=>Imp cx (bk b2 97 (zas o a' n' c')::bk b1 45 (za9 p a n c)::cs)∧o.arms.length≤8∧¬(o.n≠never∧zcy o.n 0 1000000000000=false),?_,?_⟩
 ·rintro l c1 ⟨hi,k1,k2⟩;refine⟨_,hi,?_⟩;rw [key k1 k2]at h;refine go ?_;refine lp (λi:Nat=>[.int .i64 i]) (λ_=>bk b2 97 (zas o a' n' c')::bk b1 45 (za9 p a n c)::cs) (λi=>i≤n'∧zbr ((o.arms.drop i).map (armE p))=zbr (o.arms.map (armE p))) (λi=>n'-i) 0 rfl (Imp.refl _) ⟨JJ _,rfl⟩ ?_;rintro i ⟨i1,i2⟩;refine go ?_;simp only [JD,JB,JE];refine⟨λc0=>⟨by omega,λm hmm b3=>⟨hm m (JN hmm),λc2=> ?_,λc2=> ?_⟩⟩,λc0=> ?_⟩
  ·rw [ziu _ hmm,if_pos (by simpa using c2)]at i2;rw [←i2,if_pos (by simpa using c2)]at h;exact fin h
  ·have g:armE p m=0:=by simpa using c2
   rw [ziu _ hmm,if_neg (by simp [g])]at i2;rw [zae (by omega)];exact⟨i+1,rfl,drp,⟨by omega,i2⟩,by omega⟩
  ·have e0:o.arms.drop i=[]:=Je (by omega);rw [e0,Qb,zbr]at i2;rw [←i2,if_neg (by simp)]at h;refine⟨by omega,λb3=> ?_⟩;refine lp (λi:Nat=>[.int .i64 i]) (λ_=>bk b3 3 (List.map (Value.int .i64) [o.onT,o.onE])::bk b2 97 (zas o a' n' c')::bk b1 45 (za9 p a n c)::cs) (λi=>i≤2∧zbr ((([o.onT,o.onE]:List Int).drop i).map (jumpE p))=zbr [jumpE p o.onT,jumpE p o.onE]) (λi=>2-i) 0 rfl (Imp.refl _) ⟨by omega,rfl⟩ ?_;rintro i ⟨j1,j2⟩;refine go ?_;simp only [JD,JB,JE];refine⟨λc5=>⟨by omega,by simp only [Jw,Qk];omega,?_⟩,λc5=> ?_⟩
   ·have hi2:i<([o.onT,o.onE]:List Int).length:=by simp only [Jw,Qk];omega
    obtain⟨x,hx⟩:∃x,([o.onT,o.onE]:List Int)[i]? =some x:=⟨_,JC hi2⟩;have hg:([o.onT,o.onE]:List Int).getD i 0=x:=by rw [JA,hx];rfl
    rw [hg];rw [ziu _ hx]at j2;rw [zae (by omega)];simp only [QJ,ne_eq,QC,Jc,Jl];refine⟨λc6=>⟨λc7=> ?_,λc7=>⟨i+1,rfl,drp,⟨by omega,?_⟩,by omega⟩⟩,λc6=>⟨i+1,rfl,drp,⟨by omega,?_⟩,by omega⟩⟩
    ·have g:jumpE p x=13:=by unfold jumpE;rw [if_pos ⟨c6,c7⟩]
     rw [g,if_pos (by decide)]at j2;rw [←j2]at h;exact fin h
    ·have g:jumpE p x=0:=by unfold jumpE;rw [if_neg];simp [c7]
     rw [g,if_neg (by decide)]at j2;exact j2
    ·have g:jumpE p x=0:=by unfold jumpE;rw [if_neg];simp [c6]
     rw [g,if_neg (by decide)]at j2;exact j2
   ·have e1:([o.onT,o.onE]:List Int).drop i=[]:=Je (by simp only [Jw,Qk];omega);rw [e1,Qb,zbr]at j2;rw [←j2]at h;exact fin h
 ·refine go ?_;simp only [QJ,ne_eq,QC,Jc,Jl,gt_iff_lt,JD,JB];refine⟨λc1=>⟨λc2=>fin (keq h ?_),λc2=>⟨λc3=>fin (keq h ?_),λc3=>⟨Imp.refl _,by omega,?_⟩⟩⟩,λc1=>⟨λc3=>fin (keq h ?_),λc3=>⟨Imp.refl _,by omega,?_⟩⟩⟩
  ·unfold expE;rw [if_pos ⟨c1,c2⟩]
  ·unfold expE;rw [if_neg (by simp [c2]),if_pos (by omega)]
  ·simp [c2]
  ·unfold expE;rw [if_neg (by simp [c1]),if_pos (by omega)]
  ·simp [c1]))⟩
instance c292 {v v':List Value} {p:PrM} {o:OpM} [r:PrR cs v p] [r':OpR cs v' o]:Go1 (fn 292 [.agg ⟨v⟩,.agg ⟨v'⟩] K cs) (o.Fit∧K (.int .i64 (opE p o)) cs):=⟨λ⟨hf,h⟩=>up0 (f292 (by
 obtain⟨a,n,c,L,hv,h2,h3,h4⟩:=r.h;obtain⟨a',n',c',hv',h2'⟩:=r'.h;subst hv;subst hv';unfold s292;refine goj λb1 b2=>⟨λc1=> ?_,λc1=>⟨λc2=> ?_,λc2 v' rv=> ?_⟩⟩
 ·have:o.kind<1:=by simpa using c1
  exact fin (keq h (by unfold opE;rw [if_pos (.inl this)]))
 ·have:o.kind>6:=by simpa using c2
  exact fin (keq h (by unfold opE;rw [if_pos (.inr this)]))
 ·have g0:¬(o.kind<1∨o.kind>6):=by simp at c1 c2;omega
  have hb:(bareO o).arms.length≤1000000000:=by
   have:=hf.2.1
   unfold bareO
   repeat' split
   all_goals simp [OpM.zero]
   all_goals exact this
  unfold opE at h;rw [if_neg g0]at h;refine go ?_;simp only [size0,Jd,JL,ne_eq,QJ,QC,Jc,Jl,gt_iff_lt,JD,JB];refine⟨⟨hf.2.1,hb⟩,λc3=> ?_,λc3=> ?_⟩
  ·rw [if_pos c3]at h;exact fin h
  ·rw [if_neg (by simp [c3])]at h;refine⟨λc4=>⟨λc5=> ?_,λc5=>⟨λc6=> ?_,λc6=> ?_⟩⟩,λc4=>⟨λc5=>⟨hf,?_⟩,λc5=>⟨λc6=>⟨λc7=> ?_,λc7=> ?_⟩,λc6=>⟨λc7=>⟨λc8=> ?_,λc8=> ?_⟩,λc7=> ?_⟩⟩⟩⟩
   ·rw [if_pos c4,if_pos c5]at h;exact fin h
   ·rw [if_pos c4,if_neg c5,if_pos (by omega)]at h;exact fin h
   ·rw [if_pos c4,if_neg c5,if_neg (by omega)]at h;exact fin h
   ·rw [if_neg c4,if_pos c5]at h;exact fin h
   ·rw [if_neg c4,if_neg c5,if_pos c6,if_pos c7]at h;exact fin h
   ·rw [if_neg c4,if_neg c5,if_pos c6,if_neg (by simp [c7])]at h;exact fin h
   ·rw [if_neg c4,if_neg c5,if_neg c6,if_pos c7,if_pos c8]at h;exact fin h
   ·rw [if_neg c4,if_neg c5,if_neg c6,if_pos c7,if_neg (by simp [c8])]at h;exact fin h
   ·rw [if_neg c4,if_neg c5,if_neg c6,if_neg c7]at h;exact fin h))⟩
instance c190 {v:List Value} {p:PrM} [r:PrR cs v p]:Go1 (fn 190 [.agg ⟨v⟩] K cs) (p.Fit∧∀i,K (.tuple ⟨[.int .i64 i,.int .i64 (zi4 p)]⟩) cs):=⟨λ⟨⟨hf1,hf2,hf3⟩,h⟩=>up0 (f190 (by
 obtain⟨a,n,c,L,hv,h2,h3,h4⟩:=r.h;subst hv;have rw1:Rw 97 7 cs a n c encOp L:=⟨h2⟩;have hn:=h2.len;have hn':p.ops.length=n:=by rw [←h3,JR,hn]
 unfold s190;refine go λb1=> ?_;refine⟨λ_ cx=>Imp cx (bk b1 45 (za9 p a n c)::cs)∧zi4 p=zbr (p.ops.map (opE p)),?_,?_⟩
 ·rintro l c1 ⟨hi,k1⟩;refine⟨_,hi,?_⟩;rw [k1]at h;refine go ?_;refine lp (λi:Nat=>[.int .i64 i]) (λ_=>bk b1 45 (za9 p a n c)::cs) (λi=>i≤n∧zbr ((p.ops.drop i).map (opE p))=zbr (p.ops.map (opE p))) (λi=>n-i) 0 rfl (Imp.refl _) ⟨JJ _,rfl⟩ ?_;rintro i ⟨i1,i2⟩;refine go ?_;simp only [JD,JB,JE];refine⟨λc0=>⟨by omega,λx hx b3=> ?_⟩,λc0=> ?_⟩
  ·have ho:p.ops[i]? =some x.1:=by rw [←h3,JW,hx];rfl
   have hor:OpR cs (zas x.1 x.2.1 x.2.2.1 x.2.2.2) x.1:=⟨_,_,_,rfl,h4 x (JN hx)⟩;rw [ziu _ ho]at i2;rw [zae (by omega)];refine go ⟨hf3 _ (JN ho),λc2=> ?_,λc2=> ?_⟩
   ·rw [if_pos (by simpa using c2)]at i2;rw [←i2]at h;exact fin (h _)
   ·rw [if_neg (by simpa using c2)]at i2;exact⟨i+1,rfl,drp,⟨by omega,i2⟩,by omega⟩
  ·have e0:p.ops.drop i=[]:=Je (by omega);rw [e0,Qb,zbr]at i2;rw [←i2]at h;exact fin (h _)
 ·have e1:bl p.name=p.name.data.toList:=rfl;refine go ?_;simp only [e1,QJ,ne_eq,QC,Jc,Jl,gt_iff_lt,JD,JB];unfold zi4 at h;refine⟨λc1=> ?_,λc1=> ?_⟩
  ·rw [if_pos c1]at h;exact fin (h _)
  ·rw [if_neg (by simp [c1])]at h;refine⟨λc2=>⟨λc3=> ?_,λc3=>⟨λc4=> ?_,λc4=>⟨λc5=> ?_,λc5=>⟨Imp.refl _,?_⟩⟩⟩⟩,λc2=>⟨λc4=> ?_,λc4=>⟨λc5=> ?_,λc5=>⟨Imp.refl _,?_⟩⟩⟩⟩
   ·rw [if_pos (.inl ⟨c2,c3⟩)]at h;exact fin (h _)
   ·rw [if_pos (.inr c4)]at h;exact fin (h _)
   ·rw [if_neg (by simp [c3,c4]),if_pos (by omega)]at h;exact fin (h _)
   ·unfold zi4;rw [if_neg (by simp [c1]),if_neg (by simp [c3,c4]),if_neg (by omega)]
   ·rw [if_pos (.inr c4)]at h;exact fin (h _)
   ·rw [if_neg (by simp [c2,c4]),if_pos (by omega)]at h;exact fin (h _)
   ·unfold zi4;rw [if_neg (by simp [c1]),if_neg (by simp [c2,c4]),if_neg (by omega)]))⟩
instance c118 {v:List Value} {p:PrM} [r:PrR cs v p]:Go1 (fn 118 [.agg ⟨v⟩] K cs) (p.Fit∧K (.bool (goodP p)) cs):=⟨λ⟨hf,h⟩=>up0 (f118 (by
 obtain⟨a,n,c,L,hv,h2,h3,h4⟩:=r.h;subst hv;unfold s118;refine go λb1=>⟨hf,λi=>fin h⟩))⟩
theorem zpf {α:Type} {T sz by_ t n c:Nat} {a:Option Addr} {e:Enc α sz} {l:List α} (p:SlcT t T sz by_) (r:Rw T sz cs a n c e l) (hone:∀x∈l,∀u∈e.f x,one u=true) (hn:n*by_≤140737488355328∧n≤9223372036854775807)
  (h:∀a' c' ch',Row T sz a' n c' e l ch'→K (.slice a' n c') (ch'::cs)):
  br (a.isNone) (Up K (.slice none 0 0)) (sm (Instr.buildSlice t 0 (Array.mk []))<|λv0=>unL v0 λa1 n2 c3=>sm (Builtin.append_ (Array.mk [t,t]) t (Array.mk [.slice a1 n2 c3,.slice a n c]))<|λv4=>unL v4 λa5 n6 c7=>Up K (.slice a5 n6 c7)) cs:=by
 have hlen:=r.h.len;have hnil:n=0→l=[]:=λh0=>List.length_eq_zero_iff.1 (by omega);refine br_of (λhc=> ?_) (λhc=> ?_)
 ·have h0:n=0:=by
   rcases Nat.eq_zero_or_pos n with h | h
   ·exact h
   ·obtain⟨b,_,_,_,h1,_⟩:=r.h.get h;rw [h1]at hc;cases hc
  subst h0;have hh:=h none 0 [] (by rw [hnil rfl];exact⟨Sl.nil⟩);exact⟨_,Imp.of_sub (l:=[]) (by simp),hh⟩
 ·refine go ⟨by simp,λb1=> ?_⟩;by_cases h0:n=0
  ·subst h0;refine zi3 p (JG _) (go ?_);have hh:=h (some (ad b1 0)) 0 [] (by rw [hnil rfl];exact⟨Sl.nil⟩);exact⟨_,drp,hh⟩
  ·obtain⟨b,rfl,hr⟩:=zdn (r.h.cons (d:=bk b1 T [])) (by omega);refine zkp 0 rfl (Sl.nil (T:=T) (sz:=sz)) (bytes:=by_) (news:=l.flatMap e.f) (by rw [e.flat_len,←hlen]) hr (λu hu=> ?_) (by omega) (by rw [Nat.zero_add];exact hn.1) (by omega) (λv' ch' hs=> ?_) p.h
   ·obtain⟨x,hx,hu⟩:=List.mem_flatMap.1 hu;exact hone x hx u hu
   ·obtain⟨a',c',rfl⟩:=hs.val;simp only [List.set_cons_zero,Nat.zero_add,JF]at hs ⊢;exact go ⟨_,drp,h a' c' ch' ⟨hs⟩⟩
instance c140 {n c:Nat} {a:Option Addr} {l:List OpV} [r:Rw 97 7 cs a n c encOp l]:Go1 (fn 140 [.slice a n c] K cs) (n≤1000000000∧∀a' c' ch',Row 97 7 a' n c' encOp l ch'→K (.slice a' n c') (ch'::cs)):=⟨λ⟨hn,h⟩=>up0 (f140 (by
 unfold s140;refine zpf (by_:=80) inferInstance r (λx _ u hu=> ?_) (by omega) h;simp [encOp,zas]at hu;rcases hu with rfl | rfl | rfl | rfl | rfl | rfl | rfl <;>rfl))⟩
instance c141 {n c:Nat} {a:Option Addr} {l:List ArmM} [r:Rw 146 2 cs a n c zbg l]:Go1 (fn 141 [.slice a n c] K cs) (n≤1000000000∧∀a' c' ch',Row 146 2 a' n c' zbg l ch'→K (.slice a' n c') (ch'::cs)):=⟨λ⟨hn,h⟩=>up0 (f141 (by
 unfold s141;refine zpf (by_:=24) inferInstance r (λx _ u hu=> ?_) (by omega) h;simp [zbg]at hu;rcases hu with rfl | rfl <;>rfl))⟩
class FdL {α:Type} {sz:Nat} (e:Enc α sz) (j:Nat) (f:outParam (α→Option Addr×Nat×Nat)):Prop where
 h:∀x,(e.f x)[j]? =some (.slice (f x).1 (f x).2.1 (f x).2.2)
instance rwL {α:Type} {T sz by_ t t' n c j:Nat} {i:Int} {a:Option Addr} {e:Enc α sz} {l:List α} {f:α→Option Addr×Nat×Nat} {K:Option Addr→Nat→Nat→SP} [p:SlcT t T sz by_] [q:PlT t'] [r:Rw T sz cs a n c e l] [d:FdL e j f]:
  Go1 (ix t (.slice a n c) i (λp=>ldL t' (p.add j) K) cs) ((0≤i∧i<n)∧∀x,l[i.toNat]? =some x→K (f x).1 (f x).2.1 (f x).2.2 cs):=
 ⟨λh=>zuf p q r.h h.1 d.h λx hx=>⟨_,_,_,rfl,h.2 x hx⟩⟩
instance fdL4:FdL encOp 4 Prod.snd:=⟨λ_=>rfl⟩
instance rowSetF {α:Type} {T sz by_ t t' n c j:Nat} {i:Int} {a:Option Addr} {e:Enc α sz} {l:List α} {ch:Chunk} {put:Chunk→St} {v:Value} {K:SP} [p:SlcT t T sz by_] [q:SzT t' 1] [r:Row T sz a n c e l ch] [at_:ChAt cs ch put] [o1:One v]:
  Go1 (ix t (.slice a n c) i (λp=>st t' (p.add j) v K) cs) (((0≤i∧i<n)∧j<sz)∧∀x,l[i.toNat]? =some x→∃y,e.f y=(e.f x).set j v∧∀ch',Row T sz a n c e (l.set i.toNat y) ch'→K (put ch')):=⟨λ⟨⟨hi,hj⟩,h⟩=>by
 have hlen:=r.len;have hlt:i.toNat<l.length:=by omega
 obtain⟨k,hk,hput⟩:=at_.h;obtain⟨y,hy,hh⟩:=h _ (JC hlt);obtain⟨rb,o,X,Z,rfl,ho,hch,hrow⟩:=r.split hlt;refine ix_at hi.1 hi.2 ?_ (zew p);rw [zbd];refine st_wr (l:=[v]) (by rw [zds o1.h]) (λu hu=>by rw [Jg.1 hu];exact o1.h) (by simp only [JP];exact q.h) ⟨k,T,_,by rw [←hch];exact hk,?_,rfl⟩ ?_
 ·have:=e.len l[i.toNat]
  simp only [JH,JP];omega
 ·have e5:lay (X++(e.f l[i.toNat]++Z)) (o+i.toNat*sz+j) [v]=X++(e.f y++Z):=by
   have:=e.len l[i.toNat]
   rw [ho,zmx X [] j,zix _ _ _ _ (by simp only [JP];omega),hy];rfl
  rw [e5,←hput];exact hh _ (hrow y)⟩
structure Sc where
 p:PrM
 a:Option Addr
 n:Nat
 c:Nat
 ch:Chunk
 r:PrR [ch] (za9 p a n c) p
theorem RdS.sub {α:Type} {sz n c:Nat} {cs cs':St} {e:Enc α sz} {a:Option Addr} {l:List α} (h:RdS cs e a n c l) (hm:∀x∈cs.flatten,x∈cs'.flatten):RdS cs' e a n c l:=by
 refine⟨h.len,h.cap,λhn=> ?_⟩;obtain⟨b,o,T,cells,h1,h2,h3⟩:=h.get hn;exact⟨b,o,T,cells,h1,h2.mono hm,h3⟩
instance c82 {v:List Value} {p:PrM} [r:PrR cs v p]:Go1 (fn 82 [.agg ⟨v⟩] K cs) (p.Fit∧∀sc:Sc,sc.p=p→K (.agg ⟨za9 sc.p sc.a sc.n sc.c⟩) (sc.ch::cs)):=⟨λ⟨⟨hf1,hf2,hf3⟩,h⟩=>up0 (f82 (by
 obtain⟨a,n,c,L,hv,h2,h3,h4⟩:=r.h;subst hv;have rw1:Rw 97 7 cs a n c encOp L:=⟨h2⟩;have hn:=h2.len;have hn':p.ops.length=n:=by rw [←h3,JR,hn]
 unfold s82;refine go λb1 b2=>⟨by omega,λa1 c1 ch1 r1=> ?_⟩;refine go ?_;refine lp (λy:Nat×Chunk×Chunk×List OpV=>[.int .i64 y.1]) (λy=>bk b2 45 [.string .empty,.int .i64 0,.int .i64 0,.slice none 0 0]::bk b1 45 (za9 p a1 n c1)::y.2.1::y.2.2.1::cs)
  (λy=>y.1≤n∧Row 97 7 a1 n c1 encOp y.2.2.2 y.2.1∧y.2.2.2.map Prod.fst=p.ops∧(∀j,y.1≤j→y.2.2.2[j]? =L[j]?)∧∀j x,j<y.1→y.2.2.2[j]? =some x→RdS [y.2.2.1] zbg x.2.1 x.2.2.1 x.2.2.2 x.1.arms) (λy=>n-y.1)
  (0,ch1,[],L) rfl drp ⟨JJ _,r1,h3,λ_ _=>rfl,λj x hj=>absurd hj (Nat.not_lt_zero _)⟩ ?_
 rintro⟨i,chO,g,M⟩ ⟨i1,i2,i3,i4,i5⟩;dsimp only at *;have hM:=i2.len;refine go ?_;simp only [JD,JB,JE];refine⟨λc0=>⟨by omega,λx hx=> ?_⟩,λc0=> ?_⟩
 ·have hxL:L[i]? =some x:=by rw [←i4 i (JG _),hx]
  have hxp:p.ops[i]? =some x.1:=by rw [←i3,JW,hx];rfl
  have rwx:Rw 146 2 cs x.2.1 x.2.2.1 x.2.2.2 zbg x.1.arms:=⟨h4 x (JN hxL)⟩;have hfx:=(hf3 x.1 (JN hxp)).2.1;have hxn:=rwx.h.len;refine go ⟨by omega,λa2 c2 ch2 r2=> ?_⟩;refine go ⟨⟨by omega,by decide⟩,λx' hx'=>⟨(x.1,a2,x.2.2.1,c2),?_,λch' r'=> ?_⟩⟩
  ·rw [JE,hx]at hx';cases hx';rfl
  ·rw [zae (by omega)];rw [JE]at r';have hi:i<M.length:=by omega
   refine⟨(i+1,ch',ch2++g,M.set i (x.1,a2,x.2.2.1,c2)),rfl,drp,⟨by omega,r',?_,λj hj=> ?_,λj z hj hz=> ?_⟩,by omega⟩
   ·rw [List.map_set,i3]
    have:(p.ops.set i x.1)=p.ops:=by
     apply List.ext_getElem?;intro k;rw [Jy];split
     ·rename_i hk;subst hk;split
      ·exact hxp.symm
      ·rename_i hk;exact absurd (zaa hxp) hk
     ·rfl
    exact this
   ·rw [JS (by omega)];exact i4 j (by omega)
   ·by_cases hji:j=i
    ·subst hji;rw [QR hi]at hz;cases hz
     have:Rw 146 2 [ch2] a2 x.2.2.1 c2 zbg x.1.arms:=inferInstance
     exact this.h.sub (λy hy=>by simp at hy ⊢;exact .inl hy)
    ·rw [JS (Ne.symm hji)]at hz;exact(i5 j z (by omega) hz).sub (λy hy=>by simp at hy ⊢;exact .inr hy)
 ·have e:i=n:=by omega
  subst e;have hh:=h ⟨p,a1,i,c1,chO++g,⟨a1,i,c1,M,rfl,?_,i3,λx hx=> ?_⟩⟩ rfl
  ·exact fin hh
  ·have:Rw 97 7 [chO] a1 i c1 encOp M:=inferInstance
   exact this.h.sub (λy hy=>by simp at hy ⊢;exact .inl hy)
  ·obtain⟨j,hj,rfl⟩:=List.mem_iff_getElem.1 hx;exact(i5 j _ (by omega) (JC hj)).sub (λy hy=>by simp at hy ⊢;exact .inr hy)))⟩
end
end Go.Proofs.YtbjlfobjngogkaaGreatDoor
namespace Go.Proofs.YtbjlfobjngogkaaGreatDoor
structure StepM where
 tick:Int
 at_:Int
 what:Int
 arm:Int
 n:Int
 status:Int
 deriving DecidableEq
structure Win where
 b:List UInt8
 seen:Nat
 m:Option Pats
structure Dia where
 s:Setup
 p:PrM
 at_:Int
 status:Int
 jumps:Int
 due:Due
 inq:List UInt8
 win:Win
 out:Wtr
 eof:Bool
 now:Int
def opAt (ops:List OpM) (i:Int):OpM:=ops.getD i.toNat OpM.zero
def Dia.op (d:Dia):OpM:=opAt d.p.ops d.at_
def zif (o:OpM):List (List UInt8):=o.arms.map λm=>m.pat.data.toList
def Win.begin (w:Win) (o:OpM):Win:=match aNew (zif o)with
 | .error _=>w
 | .ok m=>⟨w.b,0,some m⟩
def Dia.come (d:Dia) (to:Int):Dia:=
 if(opAt d.p.ops to).kind=1 then{d with at_:=to,due:=d.due.rest,out:=d.out.begin (opAt d.p.ops to).text}
 else if(opAt d.p.ops to).kind=2 then{d with at_:=to,due:=d.due.rest.wait d.now (opAt d.p.ops to).n,win:=d.win.begin (opAt d.p.ops to)}
 else if(opAt d.p.ops to).kind=4 then{d with at_:=to,due:=d.due.rest.wait d.now (opAt d.p.ops to).n}
 else{d with at_:=to,due:=d.due.rest}
def Dia.stop (d:Dia) (st:Int):Dia:={d with status:=st,inq:=[],win:=⟨[],0,none⟩,out:=Wtr.new d.s.out}
def Dia.jump (d:Dia) (x:StepM) (to:Int):StepM×Dia:=
 if to<0 then(x,d.stop 2)
 else if d.jumps≥d.p.jumps then({x with what:=11},d.stop 2)
 else(x,{d with jumps:=d.jumps+1}.come to)
def Dia.runs (d:Dia):Bool:=d.status == 0
def Dia.new (s:Setup) (p:PrM) (now:Int):Dia:=
 Dia.come ⟨s,p,0,0,0,Due.begin (own now) p.dl,[],⟨[],0,none⟩,Wtr.new s.out,false,own now⟩ 0
def Dia.fits (d:Dia):Nat:=d.s.ring.toNat-d.inq.length
def Dia.put (d:Dia) (b:List UInt8):Dia:=if d.runs&& !d.eof then{d with inq:=d.inq++b.take d.fits} else d
def Dia.puts (d:Dia) (b:List UInt8):Nat:=if d.runs&& !d.eof then min b.length d.fits else 0
def Dia.room (d:Dia):Nat:=if d.runs&& !d.eof then d.fits else 0
def Dia.ends (d:Dia):Dia:=if d.runs then{d with eof:=true} else d
def Dia.take (d:Dia) (n:Int):Dia:=if d.runs then{d with out:=d.out.take n} else d
def Dia.taken (d:Dia) (n:Int):ByteArray:=if d.runs then d.out.taken n else .empty
def Dia.cut (d:Dia) (t:Int):Dia:=if d.runs then{d with due:=d.due.cuts t} else d
def Win.fresh (w:Win):Nat:=w.b.length-w.seen
def Dia.readyAt (d:Dia) (now:Int):Bool:=
 if(d.due.over now).2 then true
 else if d.op.kind=1 then d.out.left == 0
 else if d.op.kind=2 then decide (0<d.win.fresh)||(decide (0<d.inq.length)||(d.eof||d.due.woken now))
 else if d.op.kind=4 then d.due.woken now
 else true
def Dia.ready (d:Dia) (now:Int):Bool:=d.runs&&d.readyAt (max now d.now)
def Dia.price (d:Dia):Int:=if d.runs then Go.Proofs.YtbjlfobjngogkaaGreatDoor.price d.s d.op.kind d.win.fresh (if d.op.kind=1 then d.out.rest else d.inq.length)else 0
def Dia.seen (d:Dia) (m:Pats):Fnd×Lk:=hlook d.s.win ⟨d.win.b,d.win.seen,m,d.inq⟩
def Dia.look (d:Dia) (x:StepM) (o:OpM):StepM×Dia:=match d.win.m with
 | none=>(x,d)
 | some m=>
  if(d.seen m).1.mat then{d with win:=⟨(d.seen m).2.b,(d.seen m).2.seen,some (d.seen m).2.m⟩,inq:=(d.seen m).2.r}.jump {x with what:=2,arm:=(d.seen m).1.arm,n:=(d.seen m).1.gone} (o.arms.getD (d.seen m).1.arm ⟨.empty,0⟩).to
  else if(d.seen m).1.full then({x with what:=13,n:=(d.seen m).1.read},{d with win:=⟨(d.seen m).2.b,(d.seen m).2.seen,some (d.seen m).2.m⟩,inq:=(d.seen m).2.r}.stop 4)
  else if d.eof then{d with win:=⟨(d.seen m).2.b,(d.seen m).2.seen,some (d.seen m).2.m⟩,inq:=(d.seen m).2.r}.jump {x with what:=4,n:=(d.seen m).1.read} o.onE
  else if d.due.woken d.now then{d with win:=⟨(d.seen m).2.b,(d.seen m).2.seen,some (d.seen m).2.m⟩,inq:=(d.seen m).2.r}.jump {x with what:=3,n:=(d.seen m).1.read} o.onT
  else({x with what:=1,n:=(d.seen m).1.read},{d with win:=⟨(d.seen m).2.b,(d.seen m).2.seen,some (d.seen m).2.m⟩,inq:=(d.seen m).2.r})
def Dia.send (d:Dia) (x:StepM) (o:OpM):StepM×Dia:=
 if d.out.rest>0 then({x with what:=5,n:=d.out.loads},{d with out:=d.out.load})
 else({x with what:=6,n:=o.text.size},d.come (d.at_+1))
def Dia.does (d:Dia) (x:StepM):StepM×Dia:=
 if(d.due.over d.now).2 then({x with what:=if(d.due.over d.now).1=3 then 12 else 14},d.stop (d.due.over d.now).1)
 else if d.op.kind=1 then d.send x d.op
 else if d.op.kind=2 then d.look x d.op
 else if d.op.kind=3 then d.jump {x with what:=7} d.op.to
 else if d.op.kind=4 then({x with what:=8},d.come (d.at_+1))
 else if d.op.kind=6 then({x with what:=10},d.stop 2)
 else({x with what:=9},d.stop 1)
def Dia.tick (d:Dia) (now:Int):Dia:={d with now:=max d.now now}
def Dia.did (d:Dia) (now:Int):StepM×Dia:=(d.tick now).does ⟨(d.tick now).now,d.at_,0,0,0,0⟩
def Dia.step (d:Dia) (now:Int):Option (StepM×Dia):=
 if d.ready now then some ({(d.did now).1 with status:=(d.did now).2.status},(d.did now).2)else none
def Dia.next (d:Dia):Int:=if d.runs then d.due.first else never
theorem zge {l:List Int} (h:zbr l=0):∀e∈l,e=0:=by
 induction l with
 | nil=>simp
 | cons a l ih=>
  rw [zbr]at h;split at h
  ·rename_i h1;exact absurd h h1
  ·rename_i h1;intro e he;rcases Jp.1 he with rfl | he
   ·exact Decidable.not_not.1 h1
   ·exact ih h e he
theorem zbo {p:PrM} (h:goodP p=true):(p.dl=never∨(1≤p.dl∧p.dl≤1000000000000))∧(0≤p.jumps∧p.jumps≤1000)∧p.ops.length≤200∧∀o∈p.ops,opE p o=0:=by
 unfold goodP zi4 at h;simp only [Jd]at h;split at h
 ·cases h
 ·split at h
  ·cases h
  ·split at h
   ·cases h
   ·rename_i h1 h2 h3;simp only [zcy,not_or,not_and,Bool.and_eq_false_iff,JB]at h2;refine⟨?_,by omega,by omega,λo ho=>zge h _ (Qh ho)⟩;by_cases hd:p.dl=never
    ·exact .inl hd
    ·have:=h2.1 hd;exact .inr (by omega)
theorem ze1 {p:PrM} {o:OpM} (h:opE p o=0):(1≤o.kind∧o.kind≤6)∧(o.kind=1→0<o.text.size∧o.text.size≤256)∧(o.kind=2→expE p o=0)∧(o.kind=3→comes p o.to=true)∧(o.kind=4→0≤o.n∧o.n≤1000000000000):=by
 unfold opE at h;split at h
 ·cases h
 ·split at h
  ·cases h
  ·rename_i h1 h2;refine⟨by omega,λk=> ?_,λk=> ?_,λk=> ?_,λk=> ?_⟩
   ·rw [if_pos k]at h;split at h
    ·cases h
    ·split at h
     ·cases h
     ·omega
   ·rw [if_neg (by omega),if_pos k]at h;exact h
   ·rw [if_neg (by omega),if_neg (by omega),if_pos k]at h;split at h
    ·cases h
    ·simpa using ‹¬comes p o.to=false›
   ·rw [if_neg (by omega),if_neg (by omega),if_neg (by omega),if_pos k]at h;split at h
    ·cases h
    ·rename_i h3;simp [zcy]at h3;exact h3
theorem zcx {p:PrM} {o:OpM} (h:expE p o=0):(o.n=never∨(0≤o.n∧o.n≤1000000000000))∧o.arms.length≤8∧(∀m∈o.arms,armE p m=0)∧(o.onT= -1∨comes p o.onT=true)∧(o.onE= -1∨comes p o.onE=true):=by
 unfold expE at h;split at h
 ·cases h
 ·split at h
  ·cases h
  ·split at h
   ·rename_i h1 h2 h3;exact absurd h h3
   ·rename_i h1 h2 h3;have hj:=zge h;have j1:=hj (jumpE p o.onT) (by simp);have j2:=hj (jumpE p o.onE) (by simp);have jj:∀t,jumpE p t=0→t= -1∨comes p t=true:=by
     intro t ht;unfold jumpE at ht;split at ht
     ·cases ht
     ·rename_i h4;by_cases h5:t= -1
      ·exact .inl h5
      ·right;simpa [h5]using h4
    refine⟨?_,by omega,λm hm=>zge (Decidable.not_not.1 h3) _ (Qh hm),jj _ j1,jj _ j2⟩;by_cases hn:o.n=never
    ·exact .inl hn
    ·right
     have:¬zcy o.n 0 1000000000000=false:=λhc=>h1 ⟨hn,hc⟩
     simp [zcy]at this;exact this
theorem zfx {p:PrM} {m:ArmM} (h:armE p m=0):m.pat.size≤64∧(∀k e,za7 m.pat.data.toList= .error (k,e)→e=0)∧((∃l,za7 m.pat.data.toList= .ok l)→comes p m.to=true):=by
 unfold armE at h;split at h
 ·cases h
 ·rename_i h1;refine⟨by omega,λk e hp=> ?_,λ⟨l,hp⟩=> ?_⟩
  ·rw [hp]at h;exact h
  ·rw [hp]at h;dsimp only at h;split at h
   ·assumption
   ·cases h
theorem zbk {p:PrM} {t:Int}:comes p t=true↔0≤t∧t≤p.ops.length:=by simp [comes]
theorem zyb {ops:List OpM} {i:Int}:opAt ops i=OpM.zero∨(opAt ops i∈ops∧i.toNat<ops.length):=by
 unfold opAt;by_cases h:i.toNat<ops.length
 ·right;rw [JA,JC h];exact⟨Jq h,h⟩
 ·left;rw [JA,QB (by omega)];rfl
theorem zw2:∀(l:List (List UInt8)) (i:Nat) (out:Pats) {m:Pats},aGo l i out= .ok m→m.length=out.length+l.length
 | [],_,out,m,h=>by rw [aGo]at h;cases h;simp
 | s::l,i,out,m,h=>by
  rw [aGo]at h;split at h
  ·cases h
  ·have:=zw2 l _ _ h
   simp at this ⊢;omega
theorem zzf {l:List (List UInt8)} {m:Pats} (h:aNew l= .ok m):m.length=l.length:=by
 unfold aNew at h;split at h
 ·cases h
 ·have:=zw2 l 0 [] h;simpa using this
theorem z0i:∀(l:List (List UInt8)) (i:Nat) (out:Pats),(∀s∈l,∃q,za7 s= .ok q)→∃m,aGo l i out= .ok m
 | [],_,out,_=>⟨out,rfl⟩
 | s::l,i,out,h=>by
  obtain⟨q,hq⟩:=h s (by simp);rw [aGo,hq];exact z0i l _ _ λt ht=>h t (by simp [ht])
theorem zu5 {p:PrM} {o:OpM} (h:expE p o=0):∃m,aNew (zif o)= .ok m∧m.length=o.arms.length:=by
 obtain⟨_,h2,h3,_⟩:=zcx h;have hl:(zif o).length=o.arms.length:=by simp [zif]
 obtain⟨m,hm⟩:=z0i (zif o) 0 [] λs hs=>by
  obtain⟨x,hx,rfl⟩:=Jt.1 hs
  have:=(zfx (h3 x hx)).2.1
  cases hp:za7 x.pat.data.toList with
  | error y=>exact absurd (this y.1 y.2 hp) (zcj hp)
  | ok q=>exact⟨q,rfl⟩
 have hn:aNew (zif o)= .ok m:=by unfold aNew;rw [if_neg (by omega)];exact hm
 exact⟨m,hn,by rw [zzf hn,hl]⟩
theorem zko {p:PrM} {m:ArmM} (h:armE p m=0):comes p m.to=true:=(zfx h).2.2 (by
 have:=(zfx h).2.1
 cases hp:za7 m.pat.data.toList with
 | error y=>exact absurd (this y.1 y.2 hp) (zcj hp)
 | ok q=>exact⟨q,rfl⟩)
theorem zku (m:Pats) (c:Nat):(aFeed m c).length=m.length:=by simp [aFeed]
theorem ztp (m:Pats):(zkt m).length=m.length:=by simp [zkt]
theorem zw4 {m:Pats} {k:Nat} (h:zfa m=some k):k<m.length:=(List.findIdx?_eq_some_iff_getElem.1 h).1
theorem zo1 (win:Int):∀(f:Nat) (s:Lk) (rd:Nat),(hLook win f s rd).2.m.length=s.m.length∧((hLook win f s rd).1.mat=true→(hLook win f s rd).1.arm<s.m.length)
 | 0,s,rd=>by simp [hLook]
 | f+1,s,rd=>by
  have key:∀(b r:List UInt8) (rd':Nat),(hFeed (hLook win f) s.m s.seen b r rd').2.m.length=s.m.length∧((hFeed (hLook win f) s.m s.seen b r rd').1.mat=true→(hFeed (hLook win f) s.m s.seen b r rd').1.arm<s.m.length):=by
   intro b r rd';unfold hFeed;cases hf:zfa (aFeed s.m (b.getD s.seen 0).toNat)with
   | none=>
    have:=zo1 win f ⟨b,s.seen+1,aFeed s.m (b.getD s.seen 0).toNat,r⟩ rd'
    simp only [zku]at this;exact this
   | some k=>
    have:=zw4 hf
    rw [zku]at this;simp only [ztp,zku];exact⟨trivial,λ_=>this⟩
  rw [hLook];split
  ·cases hr:s.r with
   | nil=>simp
   | cons c r=>
    dsimp only;split
    ·simp
    ·exact key _ _ _
  ·exact key _ _ _
theorem zo0 (win:Int) (s:Lk):(hlook win s).2.m.length=s.m.length∧((hlook win s).1.mat=true→(hlook win s).1.arm<s.m.length):=zo1 win _ s 0
structure Dia.Ok0 (d:Dia):Prop where
 sg:good d.s=true
 pg:goodP d.p=true
 pf:d.p.Fit
 a0:0≤d.at_
 a1:d.at_≤d.p.ops.length
 j0:0≤d.jumps
 j1:d.jumps≤d.p.jumps
 ou:d.out.Ok
 n0:0≤d.now
 nw:d.now≤never
 dt:d.due.til≤never
 dl:d.due.lim≤never
 dc:d.due.cut≤never
 st:d.status=0∨d.status=1∨d.status=2∨d.status=3∨d.status=4∨d.status=5
structure Dia.Ok (d:Dia):Prop extends Dia.Ok0 d where
 ar:d.status=0→d.op.kind=2→∃m,d.win.m=some m∧m.length=d.op.arms.length
theorem zal {s:Setup} (h:good s=true):(1≤s.ring∧s.ring≤4096)∧(1≤s.win∧s.win≤4096)∧(1≤s.out∧s.out≤4096)∧(1≤s.live∧s.live≤1024)∧(1≤s.quantum∧s.quantum≤1000000)∧(1≤s.visits∧s.visits≤64):=by
 simp [good,inn]at h;omega
theorem zky {n:Int}:(Wtr.new n).Ok:=by
 have h:(ByteArray.empty).size=0:=rfl;unfold Wtr.new;constructor <;>simp only [h] <;>omega
theorem znb {w:Wtr} (h:w.Ok) {t:ByteArray} (ht:t.size≤1000000000000):(w.begin t).Ok:=by
 obtain⟨h0,h1,h2,h3,h4,h5⟩:=h;unfold Wtr.begin;constructor <;>simp only <;>omega
theorem zpl {w:Wtr} (h:w.Ok):w.load.Ok:=by
 obtain⟨h0,h1,h2,h3,h4,h5⟩:=h;unfold Wtr.load Wtr.loads;have hx:w.text.size≤1000000000000:=h3;split
 ·constructor <;>simp only <;>omega
 ·constructor <;>simp only <;>omega
theorem zpk {w:Wtr} (h:w.Ok) (n:Int):(w.take n).Ok:=by
 obtain⟨h0,h1,h2,h3,h4,h5⟩:=h;unfold Wtr.take Wtr.upto;constructor <;>simp only <;>omega
theorem zlk {t:Int} (h:t≤never):own t≤never:=by have:=nev;unfold own;omega
theorem z0t {t d:Int}:tadd t d≤never:=by unfold tadd;split <;>omega
theorem zkn {t d:Int}:behind t d≤never:=by unfold behind;split;omega;exact z0t
theorem zo5 (l:List Int):∀m:Int,l.foldl (λm t=>min m (own t)) m≤m:=by
 induction l with
 | nil=>intro m;simp
 | cons a l ih=>intro m;simp only [Ji];have:=ih (min m (own a));omega
theorem znj (l:List Int):zjc l≤never:=zo5 l never
theorem zfl {p:PrM} (hg:goodP p=true) (i:Int):opAt p.ops i=OpM.zero∨(opAt p.ops i∈p.ops∧opE p (opAt p.ops i)=0∧i.toNat<p.ops.length):=by
 rcases zyb (ops:=p.ops) (i:=i)with h | h
 ·exact .inl h
 ·exact .inr ⟨h.1,(zbo hg).2.2.2 _ h.1,h.2⟩
theorem zmr {p:PrM} (hg:goodP p=true) {i:Int} (h:(opAt p.ops i).kind=1):(0<(opAt p.ops i).text.size∧(opAt p.ops i).text.size≤256)∧i.toNat<p.ops.length:=by
 rcases zfl hg i with h1 | ⟨_,h1,h2⟩
 ·rw [h1]at h;cases h
 ·exact⟨(ze1 h1).2.1 h,h2⟩
theorem zdr {p:PrM} (hg:goodP p=true) {i:Int} (h:(opAt p.ops i).kind=2):expE p (opAt p.ops i)=0∧i.toNat<p.ops.length:=by
 rcases zfl hg i with h1 | ⟨_,h1,h2⟩
 ·rw [h1]at h;cases h
 ·exact⟨(ze1 h1).2.2.1 h,h2⟩
theorem zp7 {p:PrM} (hg:goodP p=true) {i:Int} (h:(opAt p.ops i).kind=3):comes p (opAt p.ops i).to=true∧i.toNat<p.ops.length:=by
 rcases zfl hg i with h1 | ⟨_,h1,h2⟩
 ·rw [h1]at h;cases h
 ·exact⟨(ze1 h1).2.2.2.1 h,h2⟩
theorem zg3 {p:PrM} (hg:goodP p=true) {i:Int} (h:(opAt p.ops i).kind=4):(0≤(opAt p.ops i).n∧(opAt p.ops i).n≤1000000000000)∧i.toNat<p.ops.length:=by
 rcases zfl hg i with h1 | ⟨_,h1,h2⟩
 ·rw [h1]at h;cases h
 ·exact⟨(ze1 h1).2.2.2.2 h,h2⟩
theorem zkl {d:Dia} (h:d.Ok0) {to:Int} (h0:0≤to) (h1:to≤d.p.ops.length):(d.come to).Ok:=by
 unfold Dia.come;have hn:never≤never:=Int.le_refl _;split
 ·rename_i k;have ht:=zmr h.pg k;exact{h with a0:=h0,a1:=h1,ou:=znb h.ou (by omega),dt:=hn,ar:=λ_ k2=>by unfold Dia.op at k2;simp only at k2;omega}
 ·split
  ·rename_i k;have ht:=zdr h.pg k;obtain⟨m,hm,hl⟩:=zu5 ht.1;refine{h with a0:=h0,a1:=h1,dt:=zkn,ar:=λ_ _=>⟨m,?_,?_⟩}
   ·simp only [Win.begin,hm]
   ·exact hl
  ·split
   ·exact{h with a0:=h0,a1:=h1,dt:=zkn,ar:=λ_ k2=>by unfold Dia.op at k2;simp only at k2;omega}
   ·exact{h with a0:=h0,a1:=h1,dt:=hn,ar:=λ_ k2=>by unfold Dia.op at k2;simp only at k2;omega}
theorem zho {d:Dia} (h:d.Ok) {st:Int} (hs:st=1∨st=2∨st=3∨st=4∨st=5):(d.stop st).Ok:=
 {h with ou:=zky,st:=by unfold Dia.stop;simp only;omega,ar:=λh0=>by unfold Dia.stop at h0;simp only at h0;omega}
theorem zj9 {d:Dia} (h:d.Ok) {x:StepM} {to:Int} (h1:to<0∨to≤d.p.ops.length):(d.jump x to).2.Ok:=by
 unfold Dia.jump;split
 ·exact zho h (by omega)
 ·split
  ·exact zho h (by omega)
  ·refine zkl (d:={d with jumps:=d.jumps+1}) {h with j0:= ?_,j1:= ?_} (by omega) (by simp only;omega)
   ·have:=h.j0;simp only;omega
   ·simp only;omega
theorem zg6 {d:Dia} (h:d.Ok) {m:Pats} (hm:d.win.m=some m):Dia.Ok {d with win:=⟨(d.seen m).2.b,(d.seen m).2.seen,some (d.seen m).2.m⟩,inq:=(d.seen m).2.r}:=by
 refine{h with ar:=λh0 hk=> ?_};obtain⟨m',h1,h2⟩:=h.ar h0 hk;rw [hm]at h1;cases h1;refine⟨_,rfl,?_⟩
 have:=(zo0 d.s.win ⟨d.win.b,d.win.seen,m,d.inq⟩).1
 unfold Dia.seen;rw [this];exact h2
theorem zmu {d:Dia} (h:d.Ok) (h0:d.status=0) (hk:d.op.kind=2) {m:Pats} (hm:d.win.m=some m) (hmat:(d.seen m).1.mat=true):(d.seen m).1.arm<d.op.arms.length:=by
 obtain⟨m',h1,h2⟩:=h.ar h0 hk;rw [hm]at h1;cases h1
 have:=(zo0 d.s.win ⟨d.win.b,d.win.seen,m,d.inq⟩).2 hmat
 unfold Dia.seen;simp only at this;omega
theorem zvp {d:Dia} (h:d.Ok) (h0:d.status=0) (hk:d.op.kind=2) {x:StepM}:(d.look x d.op).2.Ok:=by
 unfold Dia.look;obtain⟨m,hm,hl⟩:=h.ar h0 hk;rw [hm];dsimp only;have hs:=zg6 h hm;have he:=zdr h.pg hk;obtain⟨e1,e2,e3,e4,e5⟩:=zcx he.1;split
 ·rename_i hmat;have harm:=zmu h h0 hk hm hmat;refine zj9 hs (.inr ?_);have hc:=zbk.1 (zko (e3 _ (Jq harm)))
  have:(d.op.arms.getD (d.seen m).1.arm ⟨.empty,0⟩)=d.op.arms[(d.seen m).1.arm]:=by rw [JA,JC harm];rfl
  rw [this];exact hc.2
 ·split
  ·exact zho hs (by omega)
  ·split
   ·refine zj9 hs ?_;rcases e5 with e | e
    ·left;show(opAt d.p.ops d.at_).onE<0;omega
    ·right;exact(zbk.1 e).2
   ·split
    ·refine zj9 hs ?_;rcases e4 with e | e
     ·left;show(opAt d.p.ops d.at_).onT<0;omega
     ·right;exact(zbk.1 e).2
    ·exact hs
theorem zt8 {d:Dia} (h:d.Ok) (hk:d.op.kind=1) {x:StepM}:(d.send x d.op).2.Ok:=by
 unfold Dia.send;split
 ·exact{h with ou:=zpl h.ou,ar:=h.ar}
 ·have:=(zmr h.pg hk).2
  have h0:=h.a0;exact zkl h.toOk0 (by omega) (by omega)
theorem zea {d:Due} {n:Int} (h:(d.over n).2=true):(d.over n).1=3∨(d.over n).1=5:=by
 unfold Due.over at h ⊢;split
 ·exact .inl rfl
 ·split
  ·exact .inr rfl
  ·rename_i h1 h2;rw [if_neg h1,if_neg h2]at h;cases h
theorem z2b {d:Dia} (h:d.Ok) (h0:d.status=0) {x:StepM}:(d.does x).2.Ok:=by
 unfold Dia.does;split
 ·rename_i ho;exact zho h (by have:=zea ho;omega)
 ·split
  ·exact zt8 h (by assumption)
  ·split
   ·exact zvp h h0 (by assumption)
   ·split
    ·rename_i k
     have:=zbk.1 (zp7 h.pg k).1
     exact zj9 h (.inr this.2)
    ·split
     ·rename_i k
      have:=(zg3 h.pg k).2
      have h0:=h.a0;exact zkl h.toOk0 (by omega) (by omega)
     ·split <;>exact zho h (by omega)
theorem zpp {d:Dia} (h:d.Ok) {now:Int} (hn:now≤never):(d.tick now).Ok:={h with n0:=by have:=h.n0;unfold Dia.tick;simp only;omega,nw:=by have:=h.nw;unfold Dia.tick;simp only;omega,ar:=h.ar}
theorem z3t {d:Dia} (h:d.Ok) (h0:d.status=0) {now:Int} (hn:now≤never):(d.did now).2.Ok:=z2b (zpp h hn) h0
theorem zvd {s:Setup} {p:PrM} {now:Int} (hs:good s=true) (hp:goodP p=true) (hf:p.Fit) (hn:now≤never):Dia.Ok0 ⟨s,p,0,0,0,Due.begin (own now) p.dl,[],⟨[],0,none⟩,Wtr.new s.out,false,own now⟩:=by
 have hj:=(zbo hp).2.1;refine{sg:=hs,pg:=hp,pf:=hf,a0:= ?_,a1:= ?_,j0:= ?_,j1:=hj.1,ou:=zky,n0:= ?_,nw:=zlk hn,dt:=Int.le_refl _,dl:=zkn,dc:=Int.le_refl _,st:= .inl rfl}
 ·exact Int.le_refl _
 ·exact Int.natCast_nonneg _
 ·exact Int.le_refl _
 ·simp only [own];omega
theorem z3e {s:Setup} {p:PrM} {now:Int} (hs:good s=true) (hp:goodP p=true) (hf:p.Fit) (hn:now≤never):(Dia.new s p now).Ok:=
 zkl (zvd hs hp hf hn) (Int.le_refl _) (Int.natCast_nonneg _)
theorem zob {d:Dia} (h:d.Ok) (b:List UInt8):(d.put b).Ok:=by
 unfold Dia.put;split
 ·exact{h with ar:=h.ar}
 ·exact h
theorem zqm {d:Dia} (h:d.Ok):d.ends.Ok:=by
 unfold Dia.ends;split
 ·exact{h with ar:=h.ar}
 ·exact h
theorem zpq {d:Dia} (h:d.Ok) (n:Int):(d.take n).Ok:=by
 unfold Dia.take;split
 ·exact{h with ou:=zpk h.ou n,ar:=h.ar}
 ·exact h
theorem zly {d:Dia} (h:d.Ok) (t:Int):(d.cut t).Ok:=by
 unfold Dia.cut;split
 ·exact{h with dc:=znj _,ar:=h.ar}
 ·exact h
end Go.Proofs.YtbjlfobjngogkaaGreatDoor
namespace Go.Proofs.YtbjlfobjngogkaaGreatDoor
open Go
set_option synthInstance.maxSize 100000
set_option synthInstance.maxHeartbeats 1000000
set_option maxRecDepth 100000
instance (priority:=60) naAdd2 {b i j:Nat}:Na (((ad b 0).add i).add j) b (i+j):=⟨by rw [zbd,zbd];simp⟩
class OpsR (cs:St) (a:Option Addr) (n c:Nat) (ops:outParam (List OpM)):Prop where
 h:∃L,RdS cs encOp a n c L∧L.map Prod.fst=ops∧∀x∈L,RdS cs zbg x.2.1 x.2.2.1 x.2.2.2 x.1.arms
instance (priority:=40) opsThere {cs:St} {a:Option Addr} {n c:Nat} {ops:List OpM} {d:Chunk} [r:OpsR cs a n c ops]:OpsR (d::cs) a n c ops:=⟨by
 obtain⟨L,h2,h3,h4⟩:=r.h;exact⟨L,h2.cons,h3,λx hx=>(h4 x hx).cons⟩⟩
theorem Sc.in (sc:Sc) {cs:St} (h:∀x∈sc.ch,x∈cs.flatten):OpsR cs sc.a sc.n sc.c sc.p.ops:=⟨by
 obtain⟨a,n,c,L,h1,h2,h3,h4⟩:=sc.r.h;simp only [za9,List.cons.injEq,Value.slice.injEq,and_true,true_and]at h1;obtain⟨rfl,rfl,rfl⟩:=h1;exact⟨L,h2.sub (by simpa using h),h3,λx hx=>(h4 x hx).sub (by simpa using h)⟩⟩
instance scOps {sc:Sc} {cs:St}:OpsR (sc.ch::cs) sc.a sc.n sc.c sc.p.ops:=sc.in (by simp;exact λa b h=> .inl h)
structure Dl where
 d:Dia
 sc:Sc
 rb:Nat
 hb:Nat
 ob:Nat
 rg:Rg
 hd:Hd
 tr:Int
 hp:sc.p=d.p
 h1:rg.q=d.inq
 h2:(rg.buf.length:Int)=d.s.ring
 h3:hd.win=d.s.win
 h4:hd.b=d.win.b
 h5:hd.seen=d.win.seen
 h6:hd.m=d.win.m
 ok:d.Ok
structure Dl0 where
 d:Dia
 sc:Sc
 rb:Nat
 hb:Nat
 ob:Nat
 rg:Rg
 hd:Hd
 tr:Int
 hp:sc.p=d.p
 h1:rg.q=d.inq
 h2:(rg.buf.length:Int)=d.s.ring
 h3:hd.win=d.s.win
 h4:hd.b=d.win.b
 h5:hd.seen=d.win.seen
 h6:hd.m=d.win.m
 ok:d.Ok0
def Dl.weak (x:Dl):Dl0:=⟨x.d,x.sc,x.rb,x.hb,x.ob,x.rg,x.hd,x.tr,x.hp,x.h1,x.h2,x.h3,x.h4,x.h5,x.h6,x.ok.toOk0⟩
@[reducible] def ze7 (d:Dia) (a:Option Addr) (n c:Nat) (rb hb ob:Nat):List Value:=
 [.int .i64 d.s.live,.int .i64 d.s.ring,.int .i64 d.s.win,.int .i64 d.s.out,.int .i64 d.s.quantum,.int .i64 d.s.visits,.string d.p.name,.int .i64 d.p.dl,.int .i64 d.p.jumps,.slice a n c,.int .i64 d.at_,.int .i64 d.status,.int .i64 d.jumps,.int .i64 d.due.til,.int .i64 d.due.lim,.int .i64 d.due.cut,.pointer (some (ad rb 0)),.pointer (some (ad hb 0)),.pointer (some (ad ob 0)),.bool d.eof,.int .i64 d.now]
def dialC (b:Nat) (x:Dl):Chunk:=bk b 311 (ze7 x.d x.sc.a x.sc.n x.sc.c x.rb x.hb x.ob)++(x.sc.ch++(ringC x.rb x.rg++(holdC x.hb x.hd++pendC x.ob (x.d.out,x.tr))))
section
variable {cs:St} {b:Nat} {x:Dl} {put:Chunk→St} {K:Value→SP}
instance dialRd [o:Ob dialC cs b x put]:RdB cs b 311 (ze7 x.d x.sc.a x.sc.n x.sc.c x.rb x.hb x.ob):=⟨by
 obtain⟨i,h,_⟩:=o.h;exact Rd.in h (by simp [dialC,bk])⟩
theorem zvb {cs0:St} {c:List Value} {at_:Int} {a:Option Addr} {n k:Nat} {ops:List OpM} (hsub:∀x∈cs0.flatten,x∈cs.flatten) (q:RdB cs b 311 c) (g1:Get c 10 (.int .i64 at_)) (g2:Get c 9 (.slice a n k)) (r:OpsR cs0 a n k ops)
  (h0:0≤at_) (h:∀a' n' c',OpR cs0 (zas (opAt ops at_) a' n' c') (opAt ops at_)→K (.agg ⟨zas (opAt ops at_) a' n' c'⟩) cs):fn 249 [.pointer (some (ad b 0))] K cs:=up0 (f249 (by
 obtain⟨L,h2,h3,h4⟩:=r.h;have rw1:Rw 97 7 cs a n k encOp L:=⟨h2.sub hsub⟩;have hn:=h2.len;have hl:ops.length=n:=by rw [←h3,JR,hn]
 unfold s249;refine go λb1=> ?_;simp only [JD,JB,ge_iff_le];refine⟨λc1=> ?_,λc1=>⟨by omega,λy hy=> ?_⟩⟩
 ·have e:opAt ops at_=OpM.zero:=by
   unfold opAt;rw [JA,QB (by omega)];rfl
  have:=h none 0 0 ⟨none,0,0,rfl,by rw [e];exact zbx⟩
  rw [e]at this;exact fin this
 ·have hy2:ops[at_.toNat]? =some y.1:=by rw [←h3,JW,hy];rfl
  have e:opAt ops at_=y.1:=by
   unfold opAt;rw [JA,hy2];rfl
  have hy3:=JN hy
  have:=h y.2.1 y.2.2.1 y.2.2.2 ⟨_,_,_,rfl,by rw [e];exact h4 y hy3⟩
  rw [e]at this;exact fin this))
instance c249 {c:List Value} {at_:Int} {a:Option Addr} {n k:Nat} {ops:List OpM} [q:RdB cs b 311 c] [g1:Get c 10 (.int .i64 at_)] [g2:Get c 9 (.slice a n k)] [r:OpsR cs a n k ops]:
  Go1 (fn 249 [.pointer (some (ad b 0))] K cs) (0≤at_∧∀a' n' c',OpR cs (zas (opAt ops at_) a' n' c') (opAt ops at_)→K (.agg ⟨zas (opAt ops at_) a' n' c'⟩) cs):=⟨λ⟨h0,h⟩=>zvb (λ_ h=>h) q g1 g2 r h0 h⟩
instance c174 [o:Ob dialC cs b x put]:Go1 (fn 174 [.pointer (some (ad b 0))] K cs) (K (.bool x.d.runs) cs):=⟨λh=>f174 (by unfold s174;exact go h)⟩
instance c254 [o:Ob dialC cs b x put]:Go1 (fn 254 [.pointer (some (ad b 0))] K cs) (K (.int .i64 x.d.status) cs):=⟨λh=>f254 (by unfold s254;exact go h)⟩
theorem dSc (o:Ob dialC cs b x put):∀y∈([x.sc.ch]:St).flatten,y∈cs.flatten:=by
 obtain⟨i,h,_⟩:=o.h;exact λy hy=>Qp.2 ⟨_,JN h,by simp at hy;simp [dialC,hy]⟩
instance (priority:=2000) c249c [o:Ob dialC cs b x put]:Go1 (fn 249 [.pointer (some (ad b 0))] K cs) (∀a' n' c',OpR [x.sc.ch] (zas x.d.op a' n' c') x.d.op→K (.agg ⟨zas x.d.op a' n' c'⟩) cs):=⟨λh=>by
 have r:OpsR [x.sc.ch] x.sc.a x.sc.n x.sc.c x.d.p.ops:=by rw [←x.hp];infer_instance
 exact zvb (c:=ze7 x.d x.sc.a x.sc.n x.sc.c x.rb x.hb x.ob) (dSc o) inferInstance inferInstance inferInstance r x.ok.a0 h⟩
abbrev zan (b:Nat) (x:Dl):St:=[bk b 311 (ze7 x.d x.sc.a x.sc.n x.sc.c x.rb x.hb x.ob),x.sc.ch,ringC x.rb x.rg,holdC x.hb x.hd,pendC x.ob (x.d.out,x.tr)]
theorem za6 (x:Dl):(zan b x).flatten=dialC b x:=by simp [zan,dialC]
theorem dShut {F c:St} {v:Value} (x':Dl) (hi:Imp c (zan b x'++F)) (h:K v (put (dialC b x'))):∃parts',Imp c (parts'++F)∧K v (put parts'.flatten):=⟨zan b x',hi,by rw [za6];exact h⟩
theorem z3p {p:PrM} {o:OpM} (h:expE p o=0):o.n≤never:=by
 have:=nev
 rcases(zcx h).1 with h | h <;>omega
theorem zl0 {x:Dl0} {F:St} {to:Int} (ht0:0≤to) (ht1:to≤x.d.p.ops.length) {K:Value→SP} (h:∀x':Dl,x'.d=x.d.come to→K undef (zan b x'++F)):
  fn 233 [.pointer (some (ad b 0)),.int .i64 to] (Up K) (bk b 311 (ze7 x.d x.sc.a x.sc.n x.sc.c x.rb x.hb x.ob)::x.sc.ch::ringC x.rb x.rg::holdC x.hb x.hd::pendC x.ob (x.d.out,x.tr)::F):=f233 (by
 have dShut:∀{c:St} (x':Dl),Imp c (zan b x'++F)→x'.d=x.d.come to→Up K undef c:=λx' hi e=>⟨_,hi,h x' e⟩;unfold s233;have hok:=zkl x.ok ht0 ht1;have hnev:=nev;have hp:=x.hp;refine go ⟨ht0,λa' n' c' ro b2=> ?_⟩;rw [hp]at ro ⊢;obtain⟨a3,n3,c3,q1,rarms⟩:=ro.h;simp only [zas,List.cons.injEq,Value.slice.injEq,and_true,true_and]at q1;obtain⟨rfl,rfl,rfl⟩:=q1;have rwa:Rw 146 2 F a' n' c' zbg (opAt x.d.p.ops to).arms→True:=λ_=>trivial;simp only [Jd,JL,ne_eq];refine⟨λc1=> ?_,λc1=>⟨λc2=> ?_,λc2=>⟨λc4=>⟨⟨x.ok.nw,?_⟩,?_⟩,λc4=> ?_⟩⟩⟩
 ·have e:x.d.come to={x.d with at_:=to,due:=x.d.due.rest,out:=x.d.out.begin (opAt x.d.p.ops to).text}:=by unfold Dia.come;rw [if_pos c1]
  rw [e]at hok;refine dShut ⟨{x.d with at_:=to,due:=x.d.due.rest,out:=x.d.out.begin (opAt x.d.p.ops to).text},x.sc,x.rb,x.hb,x.ob,x.rg,x.hd,0,hp,x.h1,x.h2,x.h3,x.h4,x.h5,x.h6,hok⟩ ?_ e.symm;dsimp only [zan,List.cons_append,List.nil_append];exact drp
 ·have e:x.d.come to={x.d with at_:=to,due:=x.d.due.rest.wait x.d.now (opAt x.d.p.ops to).n,win:=x.d.win.begin (opAt x.d.p.ops to)}:=by unfold Dia.come;rw [if_neg c1,if_pos c2]
  rw [e]at hok;have he:=zdr x.ok.pg c2;obtain⟨e1,e2,e3,e4,e5⟩:=zcx he.1;obtain⟨m,hm,hml⟩:=zu5 he.1;have hn':=rarms.len;have rw1:Rw 146 2 (bk b 311 (ze7 {x.d with at_:=to,due:=x.d.due.rest} x.sc.a x.sc.n x.sc.c x.rb x.hb x.ob)::x.sc.ch::ringC x.rb x.rg::holdC x.hb x.hd::pendC x.ob (x.d.out,x.tr)::F) a' n' c' zbg (opAt x.d.p.ops to).arms:=⟨rarms⟩;refine lp (λy:Nat×Option Addr×Nat×Chunk=>[.slice y.2.1 y.1 y.2.2.1,.int .i64 y.1]) (λy=>y.2.2.2::bk b2 97 (zas (opAt x.d.p.ops to) a' n' c')::bk b 311 (ze7 {x.d with at_:=to,due:=x.d.due.rest} x.sc.a x.sc.n x.sc.c x.rb x.hb x.ob)::x.sc.ch::ringC x.rb x.rg::holdC x.hb x.hd::pendC x.ob (x.d.out,x.tr)::F)
   (λy=>y.1≤n'∧Row 9 1 y.2.1 y.1 y.2.2.1 encS (((opAt x.d.p.ops to).arms.take y.1).map ArmM.pat) y.2.2.2) (λy=>n'-y.1) (0,none,0,[]) rfl drp ⟨JJ _,⟨Sl.nil⟩⟩ ?_
  rintro⟨i,ai,ci,chi⟩ ⟨i1,i2⟩;dsimp only at *;refine go ?_;simp only [JD,JB,JE];refine⟨λk1=>⟨by omega,λy hy b3=>⟨⟨by omega,by omega,by omega⟩,y.pat,rfl,λa4 c4 ch4 r4=> ?_⟩⟩,λk1=> ?_⟩
  ·rw [zae (by omega)];refine⟨(i+1,a4,c4,ch4),rfl,drp,⟨by omega,?_⟩,by omega⟩;have hi:=zaa hy;have et:(opAt x.d.p.ops to).arms.take (i+1)=(opAt x.d.p.ops to).arms.take i++[y]:=by
    rw [JZ hi];rw [JC hi]at hy;rw [JQ hy]
   rw [et,QL];exact r4
  ·have ei:i=n':=by omega
   subst ei;have i3:(opAt x.d.p.ops to).arms.take i=(opAt x.d.p.ops to).arms:=by rw [hn',QS]
   rw [i3];have hpats:((opAt x.d.p.ops to).arms.map ArmM.pat).map bl=zif (opAt x.d.p.ops to):=by simp [zif,bl]
   refine go ⟨⟨λs hs=> ?_,by omega⟩,λj e he2=> ?_,λm' hm' hd' g1 g2 g3 g4=> ?_⟩
   ·obtain⟨y,hy,rfl⟩:=Jt.1 hs
    have:=(zfx (e3 y hy)).1;omega
   ·rw [hpats,hm]at he2;cases he2
   ·rw [hpats,hm]at hm';cases hm';refine⟨⟨x.ok.nw,z3p he.1⟩,?_⟩;have ew:x.d.win.begin (opAt x.d.p.ops to)=⟨x.d.win.b,0,some m⟩:=by simp only [Win.begin,hm]
    rw [ew]at e hok;refine dShut ⟨{x.d with at_:=to,due:=x.d.due.rest.wait x.d.now (opAt x.d.p.ops to).n,win:=⟨x.d.win.b,0,some m⟩},x.sc,x.rb,x.hb,x.ob,x.rg,hd',x.tr,hp,x.h1,x.h2,g1.trans x.h3,g2.trans x.h4,g3,g4,hok⟩ ?_ e.symm;dsimp only [zan,List.cons_append,List.nil_append];exact drp
 ·have:=zg3 x.ok.pg c4;omega
 ·have e:x.d.come to={x.d with at_:=to,due:=x.d.due.rest.wait x.d.now (opAt x.d.p.ops to).n}:=by unfold Dia.come;rw [if_neg c1,if_neg c2,if_pos c4]
  rw [e]at hok;refine dShut ⟨{x.d with at_:=to,due:=x.d.due.rest.wait x.d.now (opAt x.d.p.ops to).n},x.sc,x.rb,x.hb,x.ob,x.rg,x.hd,x.tr,hp,x.h1,x.h2,x.h3,x.h4,x.h5,x.h6,hok⟩ ?_ e.symm;dsimp only [zan,List.cons_append,List.nil_append];exact drp
 ·have e:x.d.come to={x.d with at_:=to,due:=x.d.due.rest}:=by unfold Dia.come;rw [if_neg c1,if_neg c2,if_neg c4]
  rw [e]at hok;refine dShut ⟨{x.d with at_:=to,due:=x.d.due.rest},x.sc,x.rb,x.hb,x.ob,x.rg,x.hd,x.tr,hp,x.h1,x.h2,x.h3,x.h4,x.h5,x.h6,hok⟩ ?_ e.symm;dsimp only [zan,List.cons_append,List.nil_append];exact drp)
instance c233 [o:Ob dialC cs b x put] {to:Int}:Go1 (fn 233 [.pointer (some (ad b 0)),.int .i64 to] K cs) ((0≤to∧to≤x.d.p.ops.length)∧∀x':Dl,x'.d=x.d.come to→K undef (put (dialC b x'))):=⟨λ⟨⟨ht0,ht1⟩,h⟩=>
 o.fn (zan b x) (za6 x) λF=>zdd (λv c ⟨c',hi,x',hc,hv,hk⟩=>by
  rw [hc]at hi;exact Go.Proofs.YtbjlfobjngogkaaGreatDoor.dShut x' hi hk) (zl0 (x:=x.weak) ht0 ht1 (K:=λv c=>∃x':Dl,c=zan b x'++F∧v=undef∧K v (put (dialC b x'))) λx' hx'=>⟨x',rfl,rfl,h x' hx'⟩)⟩
instance c389 [o:Ob dialC cs b x put] {st:Int}:Go1 (fn 389 [.pointer (some (ad b 0)),.int .i64 st] K cs) ((st=1∨st=2∨st=3∨st=4∨st=5)∧∀x':Dl,x'.d=x.d.stop st→K undef (put (dialC b x'))):=⟨λ⟨hs,h⟩=>
 o.fn (zan b x) (za6 x) λF=>f389 (by
 simp only [zan,JI,JF];unfold s389;have hok:=zho x.ok hs;have hg:=zal x.ok.sg;refine go λb1 rg' g1 g2 g3 b2 hd' k1 k2 k3 k4 b3=> ?_;refine dShut ⟨{x.d with status:=st,inq:=[],win:=⟨[],0,none⟩,out:=Wtr.new x.d.s.out},x.sc,b1,b2,b3,rg',hd',0,x.hp,g1,?_,?_,k2,k3,k4,hok⟩ ?_ (h _ rfl)
 ·rw [g3];show _=x.d.s.ring;omega
 ·rw [k1];show _=x.d.s.win;omega
 ·dsimp only [zan,List.cons_append,List.nil_append];exact drp)⟩
@[reducible] def stC (y:StepM):List Value:=[.int .i64 y.tick,.int .i64 y.at_,.int .i64 y.what,.int .i64 y.arm,.int .i64 y.n,.int .i64 y.status]
theorem dFold {c G:St} (x1:Dl) (hi:Imp c (zan b x1++G)):Imp c (dialC b x1::G):=hi.trans (Imp.of_sub (l:=[]) (by simp [zan,dialC]))
theorem dUn {G:St} (x1:Dl):Imp (dialC b x1::G) (zan b x1++G):=Imp.of_sub (l:=[]) (by simp [zan,dialC])
theorem d392 (o:Ob dialC cs b x put) {y:StepM} {to:Int}:Go1 (fn 392 [.pointer (some (ad b 0)),.agg ⟨stC y⟩,.int .i64 to] K cs) ((to<0∨to≤x.d.p.ops.length)∧∀x':Dl,x'.d=(x.d.jump y to).2→K (.agg ⟨stC (x.d.jump y to).1⟩) (put (dialC b x'))):=⟨λ⟨hs,h⟩=>
 o.fn (zan b x) (za6 x) λF=>f392 (by
 simp only [zan,JI,JF];unfold s392;have hok:=zj9 x.ok (x:=y) hs;refine go λb1 b2=> ?_;simp only [JD,JB,ge_iff_le];refine⟨λc1=> ?_,λc1=>⟨λc2=> ?_,λc2=> ?_⟩⟩
 ·have e:x.d.jump y to=(y,x.d.stop 2):=by unfold Dia.jump;rw [if_pos c1]
  rw [e]at h;refine zaj (dFold (b:=b) (G:=bk b2 99 [.int .i64 0,.int .i64 0,.int .i64 0,.int .i64 0,.int .i64 0,.int .i64 0]::bk b1 99 (stC y)::F) x (by dsimp only [zan,List.cons_append,List.nil_append];exact drp)) ?_;refine go ⟨by omega,λx' hx'=> ?_⟩;refine dShut x' ?_ (h x' hx');exact Imp.trans drp (dUn x')
 ·have e:x.d.jump y to=({y with what:=11},x.d.stop 2):=by unfold Dia.jump;rw [if_neg c1,if_pos c2]
  rw [e]at h;refine zaj (dFold (b:=b) (G:=bk b2 99 [.int .i64 0,.int .i64 0,.int .i64 0,.int .i64 0,.int .i64 0,.int .i64 0]::bk b1 99 (stC {y with what:=11})::F) x (by dsimp only [zan,List.cons_append,List.nil_append];exact drp)) ?_;refine go ⟨by omega,λx' hx'=> ?_⟩;refine dShut x' ?_ (h x' hx');exact Imp.trans drp (dUn x')
 ·have e:x.d.jump y to=(y,{x.d with jumps:=x.d.jumps+1}.come to):=by unfold Dia.jump;rw [if_neg c1,if_neg c2]
  rw [e]at h hok;have j0:=x.ok.j0;have hj:=(zbo x.ok.pg).2.1;have hok1:Dia.Ok {x.d with jumps:=x.d.jumps+1}:={x.ok with j0:=by simp only;omega,j1:=by simp only;omega,ar:=x.ok.ar};have w1:w64 (x.d.jumps+1)=x.d.jumps+1:=zad (by omega);rw [w1];refine zaj (dFold (b:=b) (G:=bk b2 99 [.int .i64 0,.int .i64 0,.int .i64 0,.int .i64 0,.int .i64 0,.int .i64 0]::bk b1 99 (stC y)::F) ⟨{x.d with jumps:=x.d.jumps+1},x.sc,x.rb,x.hb,x.ob,x.rg,x.hd,x.tr,x.hp,x.h1,x.h2,x.h3,x.h4,x.h5,x.h6,hok1⟩ (by dsimp only [zan,List.cons_append,List.nil_append];exact drp)) ?_;refine go ⟨⟨by omega,by show to≤x.d.p.ops.length;omega⟩,λx' hx'=> ?_⟩;refine dShut x' ?_ (h x' hx');exact Imp.trans drp (dUn x'))⟩
instance c392 [o:Ob dialC cs b x put] {t1 t2 t3 t4 t5 t6:Int} {to:Int}:Go1 (fn 392 [.pointer (some (ad b 0)),.agg ⟨[.int .i64 t1,.int .i64 t2,.int .i64 t3,.int .i64 t4,.int .i64 t5,.int .i64 t6]⟩,.int .i64 to] K cs) ((to<0∨to≤x.d.p.ops.length)∧∀x':Dl,x'.d=(x.d.jump ⟨t1,t2,t3,t4,t5,t6⟩ to).2→K (.agg ⟨stC (x.d.jump ⟨t1,t2,t3,t4,t5,t6⟩ to).1⟩) (put (dialC b x'))):=d392 (y:=⟨t1,t2,t3,t4,t5,t6⟩) o
theorem d390 (o:Ob dialC cs b x put) {y:StepM} {a:Option Addr} {n c:Nat}:Go1 (fn 390 [.pointer (some (ad b 0)),.agg ⟨stC y⟩,.agg ⟨zas x.d.op a n c⟩] K cs) (x.d.op.kind=1∧∀x':Dl,x'.d=(x.d.send y x.d.op).2→K (.agg ⟨stC (x.d.send y x.d.op).1⟩) (put (dialC b x'))):=⟨λ⟨hk,h⟩=>
 o.fn (zan b x) (za6 x) λF=>f390 (by
 simp only [zan,JI,JF];unfold s390;have hok:=zt8 x.ok (x:=y) hk;refine go λb1 b2 b3=>⟨x.ok.ou,?_⟩;simp only [JD,JB,gt_iff_lt];refine⟨λc1=>⟨x.ok.ou,?_⟩,λc1=> ?_⟩
 ·have e:x.d.send y x.d.op=({y with what:=5,n:=x.d.out.loads},{x.d with out:=x.d.out.load}):=by unfold Dia.send;rw [if_pos c1]
  rw [e]at h hok;refine dShut ⟨{x.d with out:=x.d.out.load},x.sc,x.rb,x.hb,x.ob,x.rg,x.hd,x.tr,x.hp,x.h1,x.h2,x.h3,x.h4,x.h5,x.h6,hok⟩ ?_ (h _ rfl);dsimp only [zan,List.cons_append,List.nil_append];exact drp
 ·have e:x.d.send y x.d.op=({y with what:=6,n:=x.d.op.text.size},x.d.come (x.d.at_+1)):=by unfold Dia.send;rw [if_neg c1]
  rw [e]at h hok;have a0:=x.ok.a0;have a1:=x.ok.a1;have hl:=(zbo x.ok.pg).2.2.1;have ha:=(zmr x.ok.pg hk).2;have w1:w64 (x.d.at_+1)=x.d.at_+1:=zad (by omega);rw [w1];refine zaj (dFold (b:=b) (G:=bk b3 99 [.int .i64 0,.int .i64 0,.int .i64 0,.int .i64 0,.int .i64 0,.int .i64 0]::bk b2 97 (zas x.d.op a n c)::bk b1 99 (stC {y with what:=6,n:=x.d.op.text.size})::F) x (by dsimp only [zan,List.cons_append,List.nil_append];exact drp)) ?_;refine go ⟨⟨by omega,by omega⟩,λx' hx'=> ?_⟩;refine dShut x' ?_ (h x' hx');exact Imp.trans drp (dUn x'))⟩
instance c390 [o:Ob dialC cs b x put] {t1 t2 t3 t4 t5 t6:Int} {a:Option Addr} {n c:Nat}:Go1 (fn 390 [.pointer (some (ad b 0)),.agg ⟨[.int .i64 t1,.int .i64 t2,.int .i64 t3,.int .i64 t4,.int .i64 t5,.int .i64 t6]⟩,.agg ⟨zas x.d.op a n c⟩] K cs) (x.d.op.kind=1∧∀x':Dl,x'.d=(x.d.send ⟨t1,t2,t3,t4,t5,t6⟩ x.d.op).2→K (.agg ⟨stC (x.d.send ⟨t1,t2,t3,t4,t5,t6⟩ x.d.op).1⟩) (put (dialC b x'))):=d390 (y:=⟨t1,t2,t3,t4,t5,t6⟩) o
instance fdArm1:FdI zbg 1 .i64 ArmM.to:=⟨λ_=>rfl⟩
@[reducible] def st0:List Value:=[.int .i64 0,.int .i64 0,.int .i64 0,.int .i64 0,.int .i64 0,.int .i64 0]
theorem d391 (o:Ob dialC cs b x put) {y:StepM} {a:Option Addr} {n c:Nat}:Go1 (fn 391 [.pointer (some (ad b 0)),.agg ⟨stC y⟩,.agg ⟨zas x.d.op a n c⟩] K cs) ((x.d.status=0∧x.d.op.kind=2∧OpR [x.sc.ch] (zas x.d.op a n c) x.d.op)∧∀x':Dl,x'.d=(x.d.look y x.d.op).2→K (.agg ⟨stC (x.d.look y x.d.op).1⟩) (put (dialC b x'))):=⟨λ⟨⟨hst,hk,ro⟩,h⟩=>
 o.fn (zan b x) (za6 x) λF=>f391 (by
 simp only [zan,JI,JF];unfold s391;obtain⟨a3,n3,c3,q1,rarms⟩:=ro.h;simp only [zas,List.cons.injEq,Value.slice.injEq,and_true,true_and]at q1;obtain⟨rfl,rfl,rfl⟩:=q1;have hok:=zvp x.ok hst hk (x:=y);obtain⟨m,hm,hml⟩:=x.ok.ar hst hk;refine go λb1 b2 b3=> ?_;refine⟨λl cx=>∃q x1,l=[.pointer (some (ad q 0))]∧Dl.d x1={x.d with win:=⟨(x.d.seen m).2.b,(x.d.seen m).2.seen,some (x.d.seen m).2.m⟩,inq:=(x.d.seen m).2.r}∧x1.sc=x.sc∧Imp cx (bk q 514 (fndL (x.d.seen m).1)::bk b3 99 st0::bk b2 97 (zas x.d.op a n c)::bk b1 99 (stC y)::dialC b x1::F),?_,?_⟩
 ·rintro l c1 ⟨q,x1,rfl,hd1,hsc,hi⟩;refine⟨_,hi,?_⟩;generalize hd2:({x.d with win:=⟨(x.d.seen m).2.b,(x.d.seen m).2.seen,some (x.d.seen m).2.m⟩,inq:=(x.d.seen m).2.r}:Dia)=d2 at *;have hp2:d2.p=x.d.p:=by rw [←hd2]
  have hn:=rarms.len;have rwa:Rw 146 2 (bk b1 99 (stC {y with what:=2,arm:=(x.d.seen m).1.arm,n:=(x.d.seen m).1.gone})::dialC b x1::F) a n c zbg x.d.op.arms:=⟨rarms.sub (λz hz=>by
   have e:z∈x.sc.ch:=by simpa using hz
   rw [←hsc]at e;simp [dialC,e])⟩
  have hl:x.d.look y x.d.op=if(x.d.seen m).1.mat then d2.jump {y with what:=2,arm:=(x.d.seen m).1.arm,n:=(x.d.seen m).1.gone} (x.d.op.arms.getD (x.d.seen m).1.arm ⟨.empty,0⟩).to
   else if(x.d.seen m).1.full then({y with what:=13,n:=(x.d.seen m).1.read},d2.stop 4)
   else if x.d.eof then d2.jump {y with what:=4,n:=(x.d.seen m).1.read} x.d.op.onE
   else if x.d.due.woken x.d.now then d2.jump {y with what:=3,n:=(x.d.seen m).1.read} x.d.op.onT
   else({y with what:=1,n:=(x.d.seen m).1.read},d2):=by
   rw [←hd2];unfold Dia.look;rw [hm]
  have e1:d2.eof=x.d.eof:=by rw [←hd2]
  have e2:d2.due=x.d.due:=by rw [←hd2]
  have e3:d2.now=x.d.now:=by rw [←hd2]
  obtain⟨p1,p2,p3,p4,p5⟩:=zcx (zdr x.ok.pg hk).1;have hmat:=λhh=>zmu x.ok hst hk hm hh;simp only [fndL];generalize hf:(x.d.seen m).1=f at *;refine go ⟨λc1=>⟨⟨by omega,by have:=hmat c1;omega⟩,λz hz=>⟨?_,λx' hx'=> ?_⟩⟩,λc1=>⟨λc2=>⟨by omega,λx' hx'=> ?_⟩,λc2=>⟨λc3=>⟨?_,λx' hx'=> ?_⟩,λc3=>⟨λc4=>⟨?_,λx' hx'=> ?_⟩,λc4=> ?_⟩⟩⟩⟩
  ·have hz2:=zbk.1 (zko (p3 z (JN hz)));rw [hd1,hp2];exact .inr hz2.2
  ·have ez:x.d.op.arms.getD f.arm ⟨.empty,0⟩=z:=by rw [JA];rw [JE]at hz;rw [hz];rfl
   rw [if_pos c1,ez]at hl;rw [hl,←hd1]at h;refine dShut x' ?_ (h x' hx');exact Imp.trans drp (dUn x')
  ·rw [if_neg (by simp [c1]),if_pos c2]at hl;rw [hl,←hd1]at h;refine dShut x' ?_ (h x' hx');exact Imp.trans drp (dUn x')
  ·rw [hd1,hp2];rcases p5 with e | e
   ·exact .inl (by have e':x.d.op.onE= -1:=e;omega)
   ·exact .inr (zbk.1 e).2
  ·rw [hd1,e1]at c3;rw [if_neg (by simp [c1]),if_neg (by simp [c2]),if_pos c3]at hl;rw [hl,←hd1]at h;refine dShut x' ?_ (h x' hx');exact Imp.trans drp (dUn x')
  ·rw [hd1,hp2];rcases p4 with e | e
   ·exact .inl (by have e':x.d.op.onT= -1:=e;omega)
   ·exact .inr (zbk.1 e).2
  ·rw [hd1,e1]at c3;rw [hd1,e2,e3]at c4;rw [if_neg (by simp [c1]),if_neg (by simp [c2]),if_neg (by simp [c3]),if_pos c4]at hl;rw [hl,←hd1]at h;refine dShut x' ?_ (h x' hx');exact Imp.trans drp (dUn x')
  ·rw [hd1,e1]at c3;rw [hd1,e2,e3]at c4;rw [if_neg (by simp [c1]),if_neg (by simp [c2]),if_neg (by simp [c3]),if_neg (by simp [c4])]at hl;rw [hl]at h;refine dShut x1 ?_ (h x1 hd1);exact Imp.trans drp (dUn x1)
 ·have eh:hlook x.hd.win {b:=x.hd.b,seen:=x.hd.seen,m:=m,r:=x.rg.q}=x.d.seen m:=by unfold Dia.seen;rw [x.h3,x.h4,x.h5,x.h1]
  have hxm:x.hd.m=some m:=x.h6.trans hm;have fin':∀(q:Nat) (hd':Hd) (rg':Rg) (cx:St),hd'.win=x.hd.win→hd'.b=(x.d.seen m).2.b→hd'.seen=(x.d.seen m).2.seen→hd'.m=some (x.d.seen m).2.m→rg'.q=(x.d.seen m).2.r→rg'.buf.length=x.rg.buf.length→
    Imp cx (bk q 514 (fndL (x.d.seen m).1)::bk b3 99 st0::bk b2 97 (zas x.d.op a n c)::bk b1 99 (stC y)::bk b 311 (ze7 x.d x.sc.a x.sc.n x.sc.c x.rb x.hb x.ob)::x.sc.ch::ringC x.rb rg'::holdC x.hb hd'::pendC x.ob (x.d.out,x.tr)::F)→
    ∃q' x1,([.pointer (some (ad q 0))]:List Value)=[.pointer (some (ad q' 0))]∧Dl.d x1={x.d with win:=⟨(x.d.seen m).2.b,(x.d.seen m).2.seen,some (x.d.seen m).2.m⟩,inq:=(x.d.seen m).2.r}∧x1.sc=x.sc∧Imp cx (bk q' 514 (fndL (x.d.seen m).1)::bk b3 99 st0::bk b2 97 (zas x.d.op a n c)::bk b1 99 (stC y)::dialC b x1::F):=by
   intro q hd' rg' cx g1 g2 g3 g4 g5 g6 hi;refine⟨q,⟨{x.d with win:=⟨(x.d.seen m).2.b,(x.d.seen m).2.seen,some (x.d.seen m).2.m⟩,inq:=(x.d.seen m).2.r},x.sc,x.rb,x.hb,x.ob,rg',hd',x.tr,x.hp,g5,?_,g1.trans x.h3,g2,g3,g4,zg6 x.ok hm⟩,rfl,rfl,rfl,hi.trans ?_⟩
   ·rw [g6];exact x.h2
   ·exact Imp.of_sub (l:=[]) (by simp [dialC])
  refine go ⟨⟨m,hxm,?_⟩,λq=>⟨m,hxm,?_⟩⟩
  ·rw [eh];intro hd' rg' g1 g2 g3 g4 g5 g6 q;simp only [fndL]at fin' ⊢;refine go (fin' q hd' rg' _ g1 g2 g3 g4 g5 g6 drp)
  ·rw [eh];intro hd' rg' g1 g2 g3 g4 g5 g6;simp only [fndL]at fin' ⊢;refine go (fin' q hd' rg' _ g1 g2 g3 g4 g5 g6 drp))⟩
instance c391 [o:Ob dialC cs b x put] {t1 t2 t3 t4 t5 t6:Int} {a:Option Addr} {n c:Nat}:Go1 (fn 391 [.pointer (some (ad b 0)),.agg ⟨[.int .i64 t1,.int .i64 t2,.int .i64 t3,.int .i64 t4,.int .i64 t5,.int .i64 t6]⟩,.agg ⟨zas x.d.op a n c⟩] K cs) ((x.d.status=0∧x.d.op.kind=2∧OpR [x.sc.ch] (zas x.d.op a n c) x.d.op)∧∀x':Dl,x'.d=(x.d.look ⟨t1,t2,t3,t4,t5,t6⟩ x.d.op).2→K (.agg ⟨stC (x.d.look ⟨t1,t2,t3,t4,t5,t6⟩ x.d.op).1⟩) (put (dialC b x'))):=d391 (y:=⟨t1,t2,t3,t4,t5,t6⟩) o
theorem d337 (o:Ob dialC cs b x put) {y:StepM}:Go1 (fn 337 [.pointer (some (ad b 0)),.agg ⟨stC y⟩] K cs) (x.d.status=0∧∀x':Dl,x'.d=(x.d.does y).2→K (.agg ⟨stC (x.d.does y).1⟩) (put (dialC b x'))):=⟨λ⟨hst,h⟩=>
 up0 (f337 (by
 unfold s337;unfold Dia.does at h;refine goj λb1 b2=>⟨λc1=> ?_,λc1 a n c ro b3=> ?_⟩
 ·rw [if_pos c1]at h;have hs:=zea c1;simp only [Jd,JL,ne_eq];refine⟨λc2=>⟨by omega,λx' hx'=>fin (keq (h x' hx') ?_)⟩,λc2=>⟨by omega,λx' hx'=>fin (keq (h x' hx') ?_)⟩⟩
  ·rw [if_pos c2]
  ·rw [if_neg c2]
 ·rw [if_neg (by simp [c1])]at h;simp only [Jd,JL,ne_eq];have a0:=x.ok.a0;have a1:=x.ok.a1;have hl:=(zbo x.ok.pg).2.2.1;refine⟨λc2=>⟨c2,λx' hx'=> ?_⟩,λc2=>⟨λc3=>⟨⟨hst,c3,ro⟩,λx' hx'=> ?_⟩,λc3=>⟨λc4=>⟨?_,λx' hx'=> ?_⟩,λc4=>⟨λc5=>⟨?_,λx' hx'=> ?_⟩,λc5=>⟨λc6=>⟨by simp,λx' hx'=> ?_⟩,λc6=>⟨by simp,λx' hx'=> ?_⟩⟩⟩⟩⟩⟩
  ·rw [if_pos c2]at h;exact fin (h x' hx')
  ·rw [if_neg c2,if_pos c3]at h;exact fin (h x' hx')
  ·exact .inr (zbk.1 (zp7 x.ok.pg c4).1).2
  ·rw [if_neg c2,if_neg c3,if_pos c4]at h;exact fin (h x' hx')
  ·have:=(zg3 x.ok.pg c5).2
   rw [zad (by omega)];omega
  ·have:=(zg3 x.ok.pg c5).2
   rw [zad (by omega)]at hx';rw [if_neg c2,if_neg c3,if_neg c4,if_pos c5]at h;exact fin (h x' hx')
  ·rw [if_neg c2,if_neg c3,if_neg c4,if_neg c5,if_pos c6]at h;exact fin (h x' hx')
  ·rw [if_neg c2,if_neg c3,if_neg c4,if_neg c5,if_neg c6]at h;exact fin (h x' hx')))⟩
instance c337 [o:Ob dialC cs b x put] {t1 t2 t3 t4 t5 t6:Int}:Go1 (fn 337 [.pointer (some (ad b 0)),.agg ⟨[.int .i64 t1,.int .i64 t2,.int .i64 t3,.int .i64 t4,.int .i64 t5,.int .i64 t6]⟩] K cs) (x.d.status=0∧∀x':Dl,x'.d=(x.d.does ⟨t1,t2,t3,t4,t5,t6⟩).2→K (.agg ⟨stC (x.d.does ⟨t1,t2,t3,t4,t5,t6⟩).1⟩) (put (dialC b x'))):=d337 (y:=⟨t1,t2,t3,t4,t5,t6⟩) o
theorem dKeep (o:Ob dialC cs b x put) {F c:St} {v:Value} (h:K v cs) (hi:Imp c (zan b x++F)):∃parts',Imp c (parts'++F)∧K v (put parts'.flatten):=⟨zan b x,hi,by rw [za6,o.same];exact h⟩
instance c246 [o:Ob dialC cs b x put] {now:Int}:Go1 (fn 246 [.pointer (some (ad b 0)),.int .i64 now] K cs) (K (.bool (x.d.readyAt now)) cs):=⟨λh=>o.fn (zan b x) (za6 x) λF=>f246 (by
 have dk:∀{c:St} {t:Bool},t=x.d.readyAt now→Imp c (zan b x++F)→∃parts',Imp c (parts'++F)∧K (.bool t) (put parts'.flatten):=λe hi=>dKeep o (e▸h) hi;simp only [zan,JI,JF]at dk ⊢;unfold s246;unfold Dia.readyAt Dia.op at dk;have hs:=x.hd.h0;have hq:=x.rg.q_length;rw [x.h1]at hq;refine go ⟨λc1=>dk (by rw [if_pos c1]) drp,λc1=>⟨x.ok.a0,λa n c ro=> ?_⟩⟩;simp only [c1,QA,if_false]at dk;rw [x.hp]at ro ⊢;simp only [Jd,JL,ne_eq,JD,JB];have ew:x.d.win.fresh=x.hd.b.length-x.hd.seen:=by unfold Win.fresh;rw [x.h4,x.h5]
 refine⟨λc2=>⟨x.ok.ou,dk ?_ drp⟩,λc2=>⟨λc3=>⟨λc4=>dk ?_ drp,λc4=>⟨λc5=>dk ?_ drp,λc5=>⟨λc6=>dk ?_ drp,λc6=>dk ?_ drp⟩⟩⟩,λc3=>⟨λc4=>dk ?_ drp,λc4=>dk ?_ drp⟩⟩⟩
 ·rw [if_pos c2]
 ·rw [if_neg c2,if_pos c3]
  have:decide (0<x.d.win.fresh)=true:=by rw [JD,ew];omega
  rw [this];rfl
 ·rw [if_neg c2,if_pos c3]
  have:decide (0<x.d.inq.length)=true:=by rw [JD];omega
  rw [this];simp
 ·rw [if_neg c2,if_pos c3,c6];simp
 ·rw [if_neg c2,if_pos c3];have h1:decide (0<x.d.win.fresh)=false:=by rw [JB,ew];omega
  have h2:decide (0<x.d.inq.length)=false:=by rw [JB];omega
  rw [h1,h2,c6];rfl
 ·rw [if_neg c2,if_neg c3,if_pos c4]
 ·rw [if_neg c2,if_neg c3,if_neg c4])⟩
instance c161 [o:Ob dialC cs b x put] {now:Int}:Go1 (fn 161 [.pointer (some (ad b 0)),.int .i64 now] K cs) (K (.bool (x.d.ready now)) cs):=⟨λh=>f161 (by
 unfold s161;unfold Dia.ready at h;have e:(if x.d.now>now then x.d.now else now)=max now x.d.now:=by omega
 refine go ⟨λc1=> ?_,λc1=> ?_⟩
 ·rw [c1]at h;rw [e];exact h
 ·rw [c1]at h;exact h)⟩
instance c167 [o:Ob dialC cs b x put]:Go1 (fn 167 [.pointer (some (ad b 0))] K cs) (K (.int .i64 x.d.next) cs):=⟨λh=>f167 (by
 unfold s167;unfold Dia.next at h
 refine go ⟨λc1=> ?_,λc1=> ?_⟩
 ·rw [if_neg (by simpa using c1)]at h;exact h
 ·rw [if_pos (by simpa using c1)]at h;exact h)⟩
instance c102 [o:Ob dialC cs b x put]:Go1 (fn 102 [.pointer (some (ad b 0))] K cs) (K (.int .i64 (x.d.room:Nat)) cs):=⟨λh=>o.fn (zan b x) (za6 x) λF=>f102 (by
 have dk:∀{c:St} {t:Int},t=(x.d.room:Nat)→Imp c (zan b x++F)→∃parts',Imp c (parts'++F)∧K (.int .i64 t) (put parts'.flatten):=λe hi=>dKeep o (e▸h) hi;have fold:∀{K':Value→SP} {args:List Value} {g:FuncId},fn g args K' (dialC b x::F)→fn g args K' (zan b x++F):=λhh=>zaj (dFold x (Imp.refl _)) hh;unfold s102;refine fold ?_;have hq:=x.rg.q_length;rw [x.h1]at hq;have h2:=x.h2;refine go ⟨λc1=>dk ?_ (dUn x),λc1=>⟨λc2=>dk ?_ (dUn x),λc2=> ?_⟩⟩
 ·simp only [Jc]at c1;unfold Dia.room;rw [c1];rfl
 ·unfold Dia.room;rw [c2];simp
 ·refine zaj (dUn x) ?_;simp only [zan,JI,JF]at dk ⊢;refine go (dk ?_ drp);simp only [Jl]at c1;unfold Dia.room Dia.fits;rw [c1,c2];simp only [Bool.not_false,Bool.and_self,if_true];omega)⟩
instance c104 [o:Ob dialC cs b x put]:Go1 (fn 104 [.pointer (some (ad b 0))] K cs) (K (.string x.d.out.peek) cs):=⟨λh=>o.fn (zan b x) (za6 x) λF=>f104 (by
 have dk:∀{c:St},Imp c (zan b x++F)→∃parts',Imp c (parts'++F)∧K (.string x.d.out.peek) (put parts'.flatten):=λhi=>dKeep o h hi;unfold s104;simp only [zan,JI,JF]at dk ⊢;refine go ⟨x.ok.ou,dk drp⟩)⟩
instance c163 [o:Ob dialC cs b x put]:Go1 (fn 163 [.pointer (some (ad b 0))] K cs) (K (.int .i64 x.d.price) cs):=⟨λh=>o.fn (zan b x) (za6 x) λF=>f163 (by
 have dk:∀{c:St} {t:Int},t=x.d.price→Imp c (zan b x++F)→∃parts',Imp c (parts'++F)∧K (.int .i64 t) (put parts'.flatten):=λe hi=>dKeep o (e▸h) hi;unfold s163;have hs:=x.hd.h0;have hq:=x.rg.q_length;rw [x.h1]at hq;have ew:x.d.win.fresh=x.hd.b.length-x.hd.seen:=by unfold Win.fresh;rw [x.h4,x.h5]
 refine zaj (dFold x (Imp.refl _)) ?_;refine go ⟨λc1=>dk ?_ (dUn x),λc1=> ?_⟩
 ·simp only [Jc]at c1;unfold Dia.price;rw [c1];rfl
 ·simp only [Jl]at c1;refine zaj (dUn x) ?_;simp only [zan,JI,JF]at dk ⊢;refine goj ⟨x.ok.a0,λa n c ro b1=> ?_⟩;simp only [Jd,JL,ne_eq];refine⟨λc2=>⟨x.ok.ou,dk ?_ ?_⟩,λc2=>dk ?_ ?_⟩
  ·have c2':x.d.op.kind=1:=by have:=c2;rw [x.hp]at this;exact this
   unfold Dia.price;rw [c1,if_pos rfl,if_pos c2',ew,x.hp];rfl
  ·exact drp
  ·have c2':¬x.d.op.kind=1:=by have:=c2;rw [x.hp]at this;exact this
   unfold Dia.price;rw [c1,if_pos rfl,if_neg c2',ew,hq,x.hp];rfl
  ·exact drp)⟩
instance c237 [o:Ob dialC cs b x put] {s:ByteArray}:Go1 (fn 237 [.pointer (some (ad b 0)),.string s] K cs) (∀x':Dl,x'.d=x.d.put (bl s)→K (.int .i64 (x.d.puts (bl s):Nat)) (put (dialC b x'))):=⟨λh=>o.fn (zan b x) (za6 x) λF=>f237 (by
 unfold s237;have hq:=x.rg.q_length;rw [x.h1]at hq;have h2:=x.h2;have hok:=zob x.ok (bl s);refine zaj (dFold x (Imp.refl _)) ?_;refine go ⟨λc1=> ?_,λc1=>⟨λc2=> ?_,λc2=> ?_⟩⟩
 ·simp only [Jc]at c1;have e1:x.d.put (bl s)=x.d:=by unfold Dia.put;rw [c1];rfl
  have e2:x.d.puts (bl s)=0:=by unfold Dia.puts;rw [c1];rfl
  rw [e1,e2]at h;exact dShut x (dUn x) (h x rfl)
 ·have e1:x.d.put (bl s)=x.d:=by unfold Dia.put;rw [c2];simp
  have e2:x.d.puts (bl s)=0:=by unfold Dia.puts;rw [c2];simp
  rw [e1,e2]at h;exact dShut x (dUn x) (h x rfl)
 ·simp only [Jl]at c1;have ef:x.d.fits=x.rg.buf.length-x.rg.n:=by unfold Dia.fits;omega
  have e1:x.d.put (bl s)={x.d with inq:=x.d.inq++(bl s).take x.d.fits}:=by simp only [Dia.put,c1,c2,Bool.not_false,Bool.and_self,if_true]
  have e2:x.d.puts (bl s)=min s.size (x.rg.buf.length-x.rg.n):=by unfold Dia.puts;rw [c1,c2,ef,zac];simp
  rw [e1,e2]at h;rw [e1]at hok;refine zaj (dUn x) ?_;simp only [zan,JI,JF];refine go λrg' g1 g2=> ?_;refine dShut ⟨{x.d with inq:=x.d.inq++(bl s).take x.d.fits},x.sc,x.rb,x.hb,x.ob,rg',x.hd,x.tr,x.hp,by rw [g1,x.h1,ef],by rw [g2];exact h2,x.h3,x.h4,x.h5,x.h6,hok⟩ ?_ (h _ rfl);dsimp only [zan,List.cons_append,List.nil_append];exact drp)⟩
instance c239 [o:Ob dialC cs b x put]:Go1 (fn 239 [.pointer (some (ad b 0))] K cs) (∀x':Dl,x'.d=x.d.ends→K (.bool (x.d.runs&& !x.d.eof)) (put (dialC b x'))):=⟨λh=>o.fn (zan b x) (za6 x) λF=>f239 (by
 unfold s239;have hok:=zqm x.ok;refine zaj (dFold x (Imp.refl _)) ?_;refine go ⟨λc1=> ?_,λc1=>⟨λc2=> ?_,λc2=> ?_⟩⟩
 ·simp only [Jc]at c1;have e1:x.d.ends=x.d:=by unfold Dia.ends;rw [c1];rfl
  rw [e1,c1]at h;exact dShut x (dUn x) (h x rfl)
 ·simp only [Jl]at c1;have e1:x.d.ends=x.d:=by unfold Dia.ends;rw [c1];simp only [if_true];rw [←c2]
  rw [e1,c1,c2]at h;exact dShut x (dUn x) (h x rfl)
 ·simp only [Jl]at c1;have e1:x.d.ends={x.d with eof:=true}:=by unfold Dia.ends;rw [c1];rfl
  rw [e1,c1,c2]at h;rw [e1]at hok;refine zci (dUn x) ?_;simp only [zan,JI,JF];refine go ?_;refine dShut ⟨{x.d with eof:=true},x.sc,x.rb,x.hb,x.ob,x.rg,x.hd,x.tr,x.hp,x.h1,x.h2,x.h3,x.h4,x.h5,x.h6,hok⟩ ?_ (h _ rfl);dsimp only [zan,List.cons_append,List.nil_append];exact drp)⟩
instance c240 [o:Ob dialC cs b x put] {n:Int}:Go1 (fn 240 [.pointer (some (ad b 0)),.int .i64 n] K cs) (∀x':Dl,x'.d=x.d.take n→K (.string (x.d.taken n)) (put (dialC b x'))):=⟨λh=>o.fn (zan b x) (za6 x) λF=>f240 (by
 unfold s240;have hok:=zpq x.ok n;refine zaj (dFold x (Imp.refl _)) ?_;refine go ⟨λc1=> ?_,λc1=> ?_⟩
 ·simp only [Jc]at c1;have e1:x.d.take n=x.d:=by unfold Dia.take;rw [c1];rfl
  have e2:x.d.taken n= .empty:=by unfold Dia.taken;rw [c1];rfl
  rw [e1,e2]at h;exact dShut x (dUn x) (h x rfl)
 ·simp only [Jl]at c1;have e1:x.d.take n={x.d with out:=x.d.out.take n}:=by unfold Dia.take;rw [c1];rfl
  have e2:x.d.taken n=x.d.out.taken n:=by unfold Dia.taken;rw [c1];rfl
  rw [e1,e2]at h;rw [e1]at hok;refine zaj (dUn x) ?_;simp only [zan,JI,JF];refine go ⟨x.ok.ou,λtr'=> ?_⟩;refine dShut ⟨{x.d with out:=x.d.out.take n},x.sc,x.rb,x.hb,x.ob,x.rg,x.hd,tr',x.hp,x.h1,x.h2,x.h3,x.h4,x.h5,x.h6,hok⟩ ?_ (h _ rfl);dsimp only [zan,List.cons_append,List.nil_append];exact drp)⟩
instance c236 [o:Ob dialC cs b x put] {t:Int}:Go1 (fn 236 [.pointer (some (ad b 0)),.int .i64 t] K cs) (∀x':Dl,x'.d=x.d.cut t→K undef (put (dialC b x'))):=⟨λh=>o.fn (zan b x) (za6 x) λF=>f236 (by
 unfold s236;have hok:=zly x.ok t;refine zaj (dFold x (Imp.refl _)) ?_;refine go ⟨λc1=> ?_,λc1=> ?_⟩
 ·have e1:x.d.cut t={x.d with due:=x.d.due.cuts t}:=by unfold Dia.cut;rw [c1];rfl
  rw [e1]at h hok;refine zci (dUn x) ?_;simp only [zan,JI,JF];refine go ?_;refine dShut ⟨{x.d with due:=x.d.due.cuts t},x.sc,x.rb,x.hb,x.ob,x.rg,x.hd,x.tr,x.hp,x.h1,x.h2,x.h3,x.h4,x.h5,x.h6,hok⟩ ?_ (h _ rfl);dsimp only [zan,List.cons_append,List.nil_append];exact drp
 ·have e1:x.d.cut t=x.d:=by unfold Dia.cut;rw [c1];rfl
  rw [e1]at h;exact dShut x (dUn x) (h x rfl))⟩
instance c253 [o:Ob dialC cs b x put] {now:Int}:Go1 (fn 253 [.pointer (some (ad b 0)),.int .i64 now] K cs) (now≤never∧(x.d.step now=none→K (.tuple ⟨[.agg ⟨st0⟩,.bool false]⟩) cs)∧∀y d',x.d.step now=some (y,d')→∀x':Dl,x'.d=d'→K (.tuple ⟨[.agg ⟨stC y⟩,.bool true]⟩) (put (dialC b x'))):=⟨λ⟨hn,h1,h2⟩=>o.fn (zan b x) (za6 x) λF=>f253 (by
 unfold s253;simp only [zan,JI,JF];refine go λb1=> ?_;refine zaj (cs':=bk b1 99 st0::dialC b x::F) (by simp only [dialC];exact drp) ?_;refine go ⟨λc1=> ?_,λc1=> ?_⟩
 ·have:x.d.step now=none:=by unfold Dia.step;rw [if_neg (by simpa using c1)]
  exact dKeep o (h1 this) (Imp.trans drp (dUn x))
 ·have c1':x.d.ready now=true:=by simpa using c1
  have hst:x.d.status=0:=by
   unfold Dia.ready at c1';simp only [JT]at c1'
   have:=c1'.1
   unfold Dia.runs at this;simpa using this
  have hs:x.d.step now=some ({(x.d.did now).1 with status:=(x.d.did now).2.status},(x.d.did now).2):=by unfold Dia.step;rw [if_pos c1']
  have h2':=h2 _ _ hs;have em:(if now>x.d.now then now else x.d.now)=max x.d.now now:=by omega
  rw [em];have hok:=zpp x.ok hn;have hdd:x.d.did now=(x.d.tick now).does ⟨max x.d.now now,x.d.at_,0,0,0,0⟩:=rfl;refine zci (cs':=bk b1 99 st0::bk b 311 (ze7 x.d x.sc.a x.sc.n x.sc.c x.rb x.hb x.ob)::x.sc.ch::ringC x.rb x.rg::holdC x.hb x.hd::pendC x.ob (x.d.out,x.tr)::F) (by simp only [dialC];exact drp) ?_;refine go ?_;refine⟨λl cx=>∃q x1,l=[.pointer (some (ad q 0))]∧Dl.d x1=(x.d.did now).2∧Imp cx (bk q 99 (stC (x.d.did now).1)::bk b1 99 st0::dialC b x1::F),?_,?_⟩
  ·rintro l cx ⟨q,x1,rfl,e1,hi⟩;refine⟨_,hi,?_⟩;rw [←e1]at h2';refine go ?_;exact dShut x1 (Imp.trans drp (dUn x1)) (h2' x1 rfl)
  ·let xt:Dl:=⟨x.d.tick now,x.sc,x.rb,x.hb,x.ob,x.rg,x.hd,x.tr,x.hp,x.h1,x.h2,x.h3,x.h4,x.h5,x.h6,hok⟩
   have ext:xt.d=x.d.tick now:=rfl;have ht:∀G:St,Imp (bk b 311 (ze7 (x.d.tick now) x.sc.a x.sc.n x.sc.c x.rb x.hb x.ob)::x.sc.ch::ringC x.rb x.rg::holdC x.hb x.hd::pendC x.ob (x.d.out,x.tr)::G) (dialC b xt::G):=λG=>Imp.of_sub (l:=[]) (by simp [dialC,xt,Dia.tick]);refine go ⟨?_,λb2=> ?_⟩
   ·refine zaj (cs':=dialC b xt::bk b1 99 st0::F) (Imp.trans (by simp only [Dia.tick];exact drp) (ht _)) ?_;refine go ⟨hst,λx' hx' b3=> ?_⟩;refine⟨b3,x',rfl,hx',?_⟩;simp only [ext,←hdd];exact drp
   ·refine zaj (cs':=dialC b xt::bk b2 99 st0::bk b1 99 st0::F) (Imp.trans (by simp only [Dia.tick];exact drp) (ht _)) ?_;refine go ⟨hst,λx' hx'=> ?_⟩;refine⟨b2,x',rfl,hx',?_⟩;simp only [ext,←hdd];exact drp)⟩
end
section
variable {cs:St} {K:Value→SP}
instance bd311:BdT 311 [(0,6),(6,4),(10,1),(11,1),(12,1),(13,3),(16,1),(17,1),(18,1),(19,1),(20,1)] [.int .i64 0,.int .i64 0,.int .i64 0,.int .i64 0,.int .i64 0,.int .i64 0,.string .empty,.int .i64 0,.int .i64 0,.slice none 0 0,.int .i64 0,.int .i64 0,.int .i64 0,.int .i64 0,.int .i64 0,.int .i64 0,.pointer none,.pointer none,.pointer none,.bool false,.int .i64 0]:=⟨by kernel_rfl⟩
instance c149 {v:List Value} {su:Setup} {p:PrM} {now:Int} [r:PrR cs v p]:Go1 (fn 149 [.agg ⟨suC su⟩,.agg ⟨v⟩,.int .i64 now] K cs) ((good su=true∧goodP p=true∧p.Fit∧now≤never)∧∀b x,Dl.d x=Dia.new su p now→K (.tuple ⟨[.pointer (some (ad b 0)),.int .i64 0]⟩) (dialC b x::cs)):=⟨λ⟨⟨hg,hp,hf,hn⟩,h⟩=>up0 (f149 (by
 obtain⟨a,n,c,L,hv,h2,h3,h4⟩:=r.h;subst hv;have hj:=zbo hp;have hgf:=zal hg;have hnv:=nev;unfold s149;have e1:min (max su.ring 1) 4096=su.ring:=by omega
 have e2:min (max su.win 1) 4096=su.win:=by omega
 have ol:own now≤never:=zlk hn;refine go λb1 b2=>⟨λc1=>absurd hg (by simpa using c1),λ_=>⟨hf,λc1=>absurd hp (by simpa using c1),λ_=>⟨hf,λsc hsc=> ?_⟩⟩⟩;refine go λb=>⟨⟨ol,by rcases hj.1 with h | h <;>omega⟩,λrb rg r1 r2 r3 hb hd k1 k2 k3 k4 ob=> ?_⟩;rw [e1]at r3;rw [e2]at k1
 let x0:Dl0:=⟨⟨su,p,0,0,0,Due.begin (own now) p.dl,[],⟨[],0,none⟩,Wtr.new su.out,false,own now⟩,sc,rb,hb,ob,rg,hd,0,hsc,r1,r3,k1,k2,k3,k4,zvd hg hp hf hn⟩
 refine zaj (cs':=bk b 311 (ze7 x0.d x0.sc.a x0.sc.n x0.sc.c x0.rb x0.hb x0.ob)::x0.sc.ch::ringC x0.rb x0.rg::holdC x0.hb x0.hd::pendC x0.ob (x0.d.out,x0.tr)::cs) ?_ ?_
 ·rw [hsc];simp only [x0];exact drp
 ·refine zdd (λv c ⟨c',hi,x',hc,hv,hx⟩=> ?_) (zl0 (x:=x0) (F:=cs) (Int.le_refl _) (Int.natCast_nonneg _) (K:=λv c=>∃x':Dl,c=zan b x'++cs∧v=undef∧x'.d=Dia.new su p now) λx' hx'=>⟨x',rfl,rfl,hx'⟩);subst hv;refine go ⟨_,?_,h b x' hx⟩;rw [hc]at hi;exact hi.trans (Imp.of_sub (l:=[]) (by simp [zan,dialC]))))⟩
end
end Go.Proofs.YtbjlfobjngogkaaGreatDoor
namespace Go.Proofs.YtbjlfobjngogkaaGreatDoor
def StepM.zero:StepM:=⟨0,0,0,0,0,0⟩
structure EvM where
 kind:Int
 id:Int
 n:Int
 tick:Int
 bytes:ByteArray
 err:Int
 step:StepM
structure Seat where
 id:Int
 d:Dia
 q:List UInt8
 eof:Bool
structure OfferM where
 id:Int
 bytes:ByteArray
 eof:Bool
structure ReportM where
 id:Int
 read:Bool
 write:Bool
 accept:Int
structure RoundM where
 ticks:Int
 opens:List Int
 offers:List OfferM
 reports:List ReportM
 drain:Int
 abort:Bool
structure Eng where
 s:Setup
 scripts:List PrM
 slots:Slots
 seats:List (Option Seat)
 turns:Turns
 tm:List Int
 clock:Int
 drains:Bool
 stopped:Bool
 out:List EvM
def zb9 (t:Int):EvM:=⟨1,0,0,t,.empty,0,StepM.zero⟩
def za5 (id n:Int):EvM:=⟨2,id,n,0,.empty,0,StepM.zero⟩
def zbz (id n err:Int):EvM:=⟨3,id,n,0,.empty,err,StepM.zero⟩
def zd0 (id:Int) (b:ByteArray):EvM:=⟨4,id,b.size,0,b,0,StepM.zero⟩
def evEof (id:Int):EvM:=⟨5,id,0,0,.empty,0,StepM.zero⟩
def zdf (id:Int) (b:ByteArray):EvM:=⟨6,id,b.size,0,b,0,StepM.zero⟩
def zbb (t:Int):EvM:=⟨7,0,0,t,.empty,0,StepM.zero⟩
def zar (id:Int) (y:StepM):EvM:=⟨8,id,0,0,.empty,0,y⟩
def zf4:EvM:=⟨9,0,0,0,.empty,0,StepM.zero⟩
def Eng.new (s:Setup) (scripts:List PrM):Eng:=⟨s,scripts,Slots.new s.live,List.replicate s.live.toNat none,Turns.new s.live s.quantum,List.replicate s.live.toNat never,0,false,false,[]⟩
def Eng.tell (e:Eng) (x:EvM):Eng:={e with out:=e.out++[x]}
def Eng.seat (e:Eng) (k:Nat):Option Seat:=e.seats.getD k none
def Eng.setSeat (e:Eng) (k:Nat) (x:Option Seat):Eng:={e with seats:=e.seats.set k x}
def Eng.settle (e:Eng) (k:Nat):Eng:=match e.seat k with
 | none=>e
 | some x=>{e with tm:=tmSet e.tm k x.d.next,turns:=if x.d.ready e.clock then e.turns.wake k else e.turns}
def Eng.gone (e:Eng) (k:Nat) (id:Int):Eng:={e with slots:=e.slots.close id,seats:=e.seats.set k none,turns:=e.turns.leave k,tm:=e.tm.set k never}
def Eng.step (e:Eng) (k:Nat):Bool×Eng:=match e.seat k with
 | none=>(false,e)
 | some x=>match x.d.step e.clock with
  | none=>if x.d.status=0 then(true,e)else(false,e.gone k x.id)
  | some y=>if y.2.status=0 then(true,(e.setSeat k (some {x with d:=y.2})).tell (zar x.id y.1))
   else(false,((e.setSeat k (some {x with d:=y.2})).tell (zar x.id y.1)).gone k x.id)
def Eng.refused (e:Eng) (n:Int):Int:=
 if n<0∨n≥e.scripts.length then 5
 else if goodP (e.scripts.getD n.toNat PrM.zero)=false then 2
 else if e.drains then 8
 else if e.slots.next≥4096 then 4
 else if e.slots.free=0 then 7
 else 0
def Eng.open (e:Eng) (n:Int):Eng:=
 if e.refused n≠0 then{e with slots:=e.slots.skip,out:=e.out++[zbz e.slots.skipped n (e.refused n)]}
 else({e with slots:=e.slots.open,seats:=e.seats.set e.slots.first (some ⟨e.slots.next,Dia.new e.s (e.scripts.getD n.toNat PrM.zero) e.clock,[],false⟩),out:=e.out++[za5 e.slots.next n]}:Eng).settle e.slots.first
def Eng.offer (e:Eng) (o:OfferM):Eng:=match e.slots.slot o.id with
 | none=>e
 | some k=>match e.seat k with
  | none=>e
  | some x=>if x.eof=true∨4096<o.bytes.size then e else e.setSeat k (some {x with q:=x.q++o.bytes.data.toList,eof:=o.eof})
def Eng.cut1 (at_:Int) (now:Bool) (e:Eng) (id:Int):Eng:=match e.slots.slot id with
 | none=>e
 | some k=>match e.seat k with
  | none=>e
  | some x=>if now=false then(e.setSeat k (some {x with d:=x.d.cut at_})).settle k
   else if((e.setSeat k (some {x with d:=x.d.cut at_})).step k).1 then((e.setSeat k (some {x with d:=x.d.cut at_})).step k).2.settle k
   else((e.setSeat k (some {x with d:=x.d.cut at_})).step k).2
def Eng.cut (e:Eng) (at_:Int) (now:Bool):Eng:=
 e.slots.live.foldl (Eng.cut1 at_ now) {e with drains:=true,out:=e.out++[zbb at_]}
def Eng.drain (e:Eng) (r:RoundM):Eng:=
 if r.abort=true∧e.stopped=false then e.cut e.clock true
 else if r.abort=false∧r.drain>0∧e.drains=false then e.cut (tadd e.clock (r.drain-1)) false
 else e
def Seat.reads (x:Seat):List UInt8:=x.q.take x.d.room
def Seat.read1 (x:Seat):Seat:={x with q:=x.q.drop x.d.room,d:=x.d.put (x.q.take x.d.room)}
def Seat.over (x:Seat):Bool:=x.eof&&x.q.isEmpty
def Eng.read (e:Eng) (k:Nat):Eng:=match e.seat k with
 | none=>e
 | some x=>
  if x.d.room=0 then e
  else
   let e1:=if x.reads=[]then e else(e.setSeat k (some x.read1)).tell (zd0 x.id ⟨⟨x.reads⟩⟩)
   let x1:=if x.reads=[]then x else x.read1
   if x1.over&&(x1.d.runs&& !x1.d.eof)then(e1.setSeat k (some {x1 with d:=x1.d.ends})).tell (evEof x.id)else e1
def Eng.write (e:Eng) (k:Nat) (accept:Int):Eng:=match e.seat k with
 | none=>e
 | some x=>if(x.d.taken accept).size=0 then e.setSeat k (some {x with d:=x.d.take accept})
  else(e.setSeat k (some {x with d:=x.d.take accept})).tell (zdf x.id (x.d.taken accept))
def Eng.reported (e:Eng) (r:ReportM) (k:Nat):Eng:=
 let e1:=if r.read then e.read k else e
 if r.write then e1.write k r.accept else e1
def Eng.report (e:Eng) (r:ReportM):Eng:=match e.slots.slot r.id with
 | none=>e
 | some k=>if(e.reported r k).out.length>e.out.length then(e.reported r k).settle k else e.reported r k
def Eng.spend:Nat→Eng→Nat→Bool×Eng
 | 0,e,_=>(true,e)
 | f+1,e,k=>match e.seat k with
  | none=>(false,e)
  | some x=>
   if x.d.ready e.clock then
    (if(e.turns.pay x.d.price).2 then
     (if(({e with turns:=(e.turns.pay x.d.price).1}:Eng).step k).1 then Eng.spend f (({e with turns:=(e.turns.pay x.d.price).1}:Eng).step k).2 k
     else(false,(({e with turns:=(e.turns.pay x.d.price).1}:Eng).step k).2))
    else(true,e))
   else(true,e)
def Eng.rest (e:Eng) (k:Nat):Eng:=match e.seat k with
 | none=>e
 | some x=>{e with turns:=e.turns.fin (x.d.ready e.clock),tm:=tmSet e.tm k x.d.next}
def Eng.turn (e:Eng):Bool×Eng:=match e.turns.begin.2 with
 | none=>(false,e)
 | some k=>
  let y:=Eng.spend ((e.turns.begin.1.has.getD k 0).toNat+1) {e with turns:=e.turns.begin.1} k
  if y.1 then(true,y.2.rest k)else(true,y.2)
def Eng.visit:Nat→Eng→Eng
 | 0,e=>e
 | v+1,e=>if e.turn.1 then Eng.visit v e.turn.2 else e
def Eng.wakeAll (e:Eng):Eng:=(tmDue e.tm.length e.tm e.clock).1.foldl (λe t=>e.settle t.2) {e with tm:=(tmDue e.tm.length e.tm e.clock).2}
def Eng.halt (e:Eng):Eng:=if e.drains&& !e.stopped&&e.slots.live.isEmpty then{e with stopped:=true,out:=e.out++[zf4]} else e
def Eng.start (e:Eng) (r:RoundM):Eng:={e with clock:=min (tadd e.clock r.ticks) (never-1),out:=[zb9 (min (tadd e.clock r.ticks) (never-1))]}
def Eng.told (e:Eng) (r:RoundM):Eng:=r.reports.foldl Eng.report ((r.offers.foldl Eng.offer (r.opens.foldl Eng.open (e.start r))).drain r)
def Eng.round (e:Eng) (r:RoundM):Eng:=(Eng.visit e.s.visits.toNat (e.told r).wakeAll).halt
end Go.Proofs.YtbjlfobjngogkaaGreatDoor
