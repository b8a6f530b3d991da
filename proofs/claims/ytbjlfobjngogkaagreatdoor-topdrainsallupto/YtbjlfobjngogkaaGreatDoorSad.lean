/- Part of a proof over this seat: contracts of functions and plain laws, joined by program out of smaller texts. Conditions: those that each theorem states. -/
import Derived.Test.YtbjlfobjngogkaaGreatDoorSac
import Derived.Shelf.SlIterI.Nil
import Derived.Shelf.SortM.Plain
import Derived.Shelf.SortM.SortNone
import Derived.Shelf.Slices.CompactI
import Derived.Test.YtbjlfobjngogkaaGreatDoorProg
namespace Go.Proofs.YtbjlfobjngogkaaGreatDoor
open Go
set_option synthInstance.maxSize 100000
set_option synthInstance.maxHeartbeats 1000000
set_option maxRecDepth 100000
@[reducible] def encE:Enc (Int×Int) 2:=⟨λx=>[.int .i64 x.1,.int .i64 x.2],by omega,λ_=>rfl⟩
instance:FdI encE 1 .i64 (λx=>x.2):=⟨λ_=>rfl⟩
def cmpI (a b:Int):Int:=if a<b then -1 else if a>b then 1 else 0
def ordI (x y:Int×Int):Int:=if cmpI x.1 y.1≠0 then cmpI x.1 y.1 else cmpI x.2 y.2
theorem zz6 (x y:Int×Int):ordI x y≤0↔lexle x y:=by unfold ordI cmpI lexle;repeat' split <;>omega
theorem z3d (x y:Int×Int):ordI x y<0↔¬lexle y x:=by unfold ordI cmpI lexle;repeat' split <;>omega
section
variable {cs:St} {K:Value→SP}
instance c350 {a:Int}:Go1 (fn 350 [.int .i64 a] K cs) (K (.bool false) cs):=⟨λh=>f350 (keq h (by simp))⟩
instance c351 {a:Int}:Go1 (fn 351 [.int .i64 a] K cs) (K (.bool false) cs):=⟨λh=>f351 (keq h (by simp))⟩
instance c268 {a b:Int}:Go1 (fn 268 [.int .i64 a,.int .i64 b] K cs) (K (.int .i64 (cmpI a b)) cs):=⟨λh=>f268 (by
 unfold s268;refine go ?_;refine⟨λc=>keq h ?_,λc=>⟨λc2=>keq h ?_,λc2=>keq h ?_⟩⟩ <;>simp_all [cmpI] <;>omega)⟩
instance c269 {a b:Int}:Go1 (fn 269 [.int .i64 a,.int .i64 b] K cs) (K (.int .i64 (cmpI a b)) cs):=⟨λh=>f269 (by
 unfold s269;refine go ?_;refine⟨λc=>keq h ?_,λc=>⟨λc2=>keq h ?_,λc2=>keq h ?_⟩⟩ <;>simp_all [cmpI] <;>omega)⟩
instance c267 {b m:Nat} {T:TypeId} {x y:Int} [r:RdB cs b T [.int .i64 x,.int .i64 y]]:Go1 (fn 267 [.slice (some (ad b 0)) 2 m] K cs) (K (.int .i64 (if x≠0 then x else y)) cs):=⟨λh=>f267 (by
 have r2:RdB cs b T (List.map (Value.int .i64) [x,y]):=⟨r.h⟩;refine lp (λi:Nat=>[.int .i64 i]) (λ_=>cs) (λi=>i≤2∧(0<i→x=0)∧(1<i→y=0)) (λi=>2-i) 0 rfl (Imp.refl _) (by simp) ?_;rintro i ⟨hi,h1,h2⟩;refine go ?_;simp only [JD,JB,QJ,ne_eq,QC,JE];refine⟨λc=>⟨⟨by omega,by omega⟩,by simp;omega,λc1=>keq h ?_,λc1=>⟨i+1,by rw [zad (by omega)];simp,Imp.refl _,?_,by omega⟩⟩,λc=>keq h ?_⟩
 ·match i,c with
  | 0,_=>simp at c1;simp [c1]
  | 1,_=>simp at c1;simp [h1 (by omega)]
  | i+2,c=>omega
 ·match i,c with
  | 0,_=>simp at c1;exact⟨by omega,λ_=>c1,λhh=>by omega⟩
  | 1,_=>simp at c1;exact⟨by omega,λ_=>h1 (by omega),λ_=>c1⟩
  | i+2,c=>omega
 ·simp [h1 (by omega),h2 (by omega)])⟩
instance c173 {x y:Int×Int}:Go1 (fn 173 [.agg ⟨[.int .i64 x.1,.int .i64 x.2]⟩,.agg ⟨[.int .i64 y.1,.int .i64 y.2]⟩] K cs) (K (.int .i64 (ordI x y)) cs):=⟨λh=>up0 (f173 (by
 unfold s173;refine go ?_;intro b1 b2;refine⟨by omega,λb3=>fin h⟩))⟩
end
structure Cns (L:List (Int×Int)) (W tm:List Int):Prop where
 c1:∀(i:Nat) x,L[i]? =some x→0≤x.2∧x.2<W.length∧W.getD x.2.toNat 0=i∧tm.getD x.2.toNat 0=x.1∧0≤x.1∧x.1<never
 c2:∀k,k<W.length→W.getD k 0= -1∨∃(i:Nat) (x:Int×Int),W.getD k 0=i∧L[i]? =some x∧x.2=k
 c3:∀k,k<W.length→W.getD k 0= -1→tm.getD k 0=never
 tl:tm.length=W.length
theorem Cns.inj {L:List (Int×Int)} {W tm:List Int} (h:Cns L W tm) {i j:Nat} {x y:Int×Int} (hi:L[i]? =some x) (hj:L[j]? =some y) (e:x.2=y.2):i=j:=by
 have h1:=(h.c1 i x hi).2.2.1;have h2:=(h.c1 j y hj).2.2.1;rw [e]at h1;omega
theorem Cns.same {L:List (Int×Int)} {W tm:List Int} (h:Cns L W tm) {i:Nat} {x:Int×Int} (hi:L[i]? =some x):W.set x.2.toNat i=W:=by
 have ce:=h.c1 i x hi;refine zbt ?_;have hlt:x.2.toNat<W.length:=by omega
 rw [JC hlt]
 have:=ce.2.2.1
 rw [JA,JC hlt]at this;exact congrArg some this
theorem Cns.move {L:List (Int×Int)} {W tm:List Int} (h:Cns L W tm) {i p:Nat} {x y:Int×Int} (hi:L[i]? =some x) (hp:L[p]? =some y) (hne:i≠p):
  Cns ((L.set i y).set p x) ((W.set y.2.toNat i).set x.2.toNat p) tm:=by
 have a1:=h.c1 i x hi;have a2:=h.c1 p y hp;have hxy:x.2≠y.2:=λe=>hne (h.inj hi hp e);have li:=zaa hi;have lp:=zaa hp;have gw:∀k,((W.set y.2.toNat i).set x.2.toNat p).getD k 0=if x.2.toNat=k then(p:Int)else if y.2.toNat=k then(i:Int)else W.getD k 0:=λk=>by
  rw [zai _ _ _ _ _ (by simp;omega),zai _ _ _ _ _ (by omega)]
 have gl:∀j:Nat,((L.set i y).set p x)[j]? =if p=j then some x else if i=j then some y else L[j]?:=λj=>by
  rw [Jy,Jy];by_cases c1:p=j
  ·rw [if_pos c1,if_pos c1,if_pos (by simp;omega)]
  ·rw [if_neg c1,if_neg c1];by_cases c2:i=j
   ·rw [if_pos c2,if_pos c2,if_pos (by omega)]
   ·rw [if_neg c2,if_neg c2]
 refine⟨λj z hj=> ?_,λk hk=> ?_,λk hk=> ?_,by simp [h.tl]⟩
 ·rw [gl]at hj;simp only [JK];rw [gw];by_cases c1:p=j
  ·rw [if_pos c1]at hj;cases hj;exact⟨a1.1,a1.2.1,by rw [if_pos rfl,c1],a1.2.2.2⟩
  ·rw [if_neg c1]at hj;by_cases c2:i=j
   ·rw [if_pos c2]at hj;cases hj;exact⟨a2.1,a2.2.1,by rw [if_neg (by omega),if_pos rfl,c2],a2.2.2.2⟩
   ·rw [if_neg c2]at hj;have a3:=h.c1 j z hj;have n1:z.2≠x.2:=λe=>c2 (h.inj hi hj e.symm);have n2:z.2≠y.2:=λe=>c1 (h.inj hp hj e.symm);exact⟨a3.1,a3.2.1,by rw [if_neg (by omega),if_neg (by omega)];exact a3.2.2.1,a3.2.2.2⟩
 ·simp only [JK]at hk;rw [gw];by_cases c1:x.2.toNat=k
  ·exact .inr ⟨p,x,by rw [if_pos c1],by rw [gl,if_pos rfl],by omega⟩
  ·rw [if_neg c1];by_cases c2:y.2.toNat=k
   ·exact .inr ⟨i,y,by rw [if_pos c2],by rw [gl,if_neg (Ne.symm hne),if_pos rfl],by omega⟩
   ·rw [if_neg c2];rcases h.c2 k hk with h1 | ⟨j,z,h1,h2,h3⟩
    ·exact .inl h1
    ·refine .inr ⟨j,z,h1,?_,h3⟩;have n1:p≠j:=λe=>by subst e;rw [hp]at h2;cases h2;omega
     have n2:i≠j:=λe=>by subst e;rw [hi]at h2;cases h2;omega
     rw [gl,if_neg n1,if_neg n2];exact h2
 ·simp only [JK]at hk;rw [gw];intro e;split at e
  ·omega
  ·split at e
   ·omega
   ·exact h.c3 k hk e
abbrev par (j:Nat):Nat:=(j-1) / 2
def Hord (L:List (Int×Int)):Prop:=∀(j:Nat) (x y:Int×Int),0<j→L[j]? =some x→L[par j]? =some y→lexle y x
structure Semi (L:List (Int×Int)) (i:Nat):Prop where
 s1:∀(j:Nat) (x y:Int×Int),0<j→j≠i→par j≠i→L[j]? =some x→L[par j]? =some y→lexle y x
 s2:∀(j:Nat) (x y:Int×Int),0<j→par j=i→0<i→L[j]? =some x→L[par i]? =some y→lexle y x
def Above (L:List (Int×Int)) (i:Nat):Prop:=∀x y:Int×Int,0<i→L[i]? =some x→L[par i]? =some y→lexle y x
theorem zc5 {x y z:Int×Int} (h:lexle x y) (h':lexle y z):lexle x z:=by unfold lexle at *;omega
theorem zee {x y:Int×Int} (h:¬lexle x y):lexle y x:=by unfold lexle at *;omega
theorem zfp (x:Int×Int):lexle x x:=by unfold lexle;omega
theorem Hord.semi {L:List (Int×Int)} (h:Hord L) {i:Nat} (x:Int×Int):Semi (L.set i x) i:=by
 refine⟨λj a b hj h1 h2 ha hb=> ?_,λj a b hj h1 h2 ha hb=> ?_⟩
 ·rw [JS (Ne.symm h1)]at ha;rw [JS (Ne.symm h2)]at hb;exact h j a b hj ha hb
 ·have n1:i≠j:=by unfold par at h1;omega
  have n2:i≠par i:=by unfold par;omega
  rw [JS n1]at ha;rw [JS n2]at hb;have hi:i<L.length:=by have:=zaa ha;unfold par at h1;omega
  exact zc5 (h i _ b h2 (JC hi) hb) (h j a _ hj ha (by rw [h1];exact JC hi))
theorem Semi.hord {L:List (Int×Int)} {i:Nat} (h:Semi L i) (ha:Above L i) (hb:∀(j:Nat) (x y:Int×Int),0<j→par j=i→L[j]? =some x→L[i]? =some y→lexle y x):Hord L:=by
 intro j x y hj hx hy;by_cases c1:j=i
 ·subst c1;exact ha x y hj hx hy
 ·by_cases c2:par j=i
  ·exact hb j x y hj c2 hx (c2▸hy)
  ·exact h.s1 j x y hj c1 c2 hx hy
theorem zl7 {L:List (Int×Int)} {i p:Nat} {x y:Int×Int} (hi:L[i]? =some x) (hp:L[p]? =some y) (j:Nat):((L.set i y).set p x)[j]? =if p=j then some x else if i=j then some y else L[j]?:=by
 have li:=zaa hi;have lp:=zaa hp;rw [Jy,Jy];by_cases c1:p=j
 ·rw [if_pos c1,if_pos c1,if_pos (by simp;omega)]
 ·rw [if_neg c1,if_neg c1];by_cases c2:i=j
  ·rw [if_pos c2,if_pos c2,if_pos (by omega)]
  ·rw [if_neg c2,if_neg c2]
theorem Semi.up {L:List (Int×Int)} {i:Nat} {x y:Int×Int} (h:Semi L i) (h0:0<i) (hi:L[i]? =some x) (hp:L[par i]? =some y) (_hlt:¬lexle y x):Semi ((L.set i y).set (par i) x) (par i):=by
 have hne:i≠par i:=by unfold par;omega
 have g:=λj=>zl7 hi hp j;refine⟨λj a b hj h1 h2 ha hb=> ?_,λj a b hj h1 h2 ha hb=> ?_⟩
 ·rw [g,if_neg (Ne.symm h1)]at ha;rw [g,if_neg (Ne.symm h2)]at hb;by_cases c1:i=j
  ·subst c1;exact absurd rfl h2
  ·rw [if_neg c1]at ha;by_cases c2:i=par j
   ·rw [if_pos c2]at hb;cases hb;exact h.s2 j a y hj c2.symm h0 ha hp
   ·rw [if_neg c2]at hb;exact h.s1 j a b hj (Ne.symm c1) (Ne.symm c2) ha hb
 ·have n2:par i≠par (par i):=by unfold par at *;omega
  have n3:i≠par (par i):=by unfold par at *;omega
  rw [g,if_neg n2,if_neg n3]at hb;have hpp:lexle b y:=h.s1 (par i) y b h2 (Ne.symm hne) (Ne.symm n3) hp hb;have n1:par i≠j:=by unfold par at *;omega
  rw [g,if_neg n1]at ha;by_cases c1:i=j
  ·rw [if_pos c1]at ha;cases ha;exact hpp
  ·rw [if_neg c1]at ha;exact zc5 hpp (h.s1 j a y hj (Ne.symm c1) (by rw [h1];exact Ne.symm hne) ha (by rw [h1];exact hp))
def Kids (L:List (Int×Int)) (i:Nat):Prop:=∀(j:Nat) (x y:Int×Int),0<j→par j=i→L[j]? =some x→L[i]? =some y→lexle y x
theorem Semi.upKids {L:List (Int×Int)} {i:Nat} {x y:Int×Int} (h:Semi L i) (h0:0<i) (hi:L[i]? =some x) (hp:L[par i]? =some y) (hlt:¬lexle y x):Kids ((L.set i y).set (par i) x) (par i):=by
 have hne:i≠par i:=by unfold par;omega
 have g:=λj=>zl7 hi hp j;intro j a b hj h1 ha hb;rw [g,if_pos rfl]at hb;cases hb;have n1:par i≠j:=by unfold par at *;omega
 rw [g,if_neg n1]at ha;by_cases c1:i=j
 ·rw [if_pos c1]at ha;cases ha;exact zee hlt
 ·rw [if_neg c1]at ha;exact zc5 (zee hlt) (h.s1 j a y hj (Ne.symm c1) (by rw [h1];exact Ne.symm hne) ha (by rw [h1];exact hp))
theorem Semi.down {L:List (Int×Int)} {i m:Nat} {x y:Int×Int} (h:Semi L i) (hm:par m=i) (m0:0<m) (hi:L[i]? =some x) (hy:L[m]? =some y) (hlt:¬lexle x y)
  (hmin:∀(j:Nat) (z:Int×Int),0<j→par j=i→L[j]? =some z→lexle y z):Semi ((L.set i y).set m x) m∧Above ((L.set i y).set m x) m:=by
 have hne:i≠m:=by unfold par at hm;omega
 have g:=λj=>zl7 hi hy j;refine⟨⟨λj a b hj h1 h2 ha hb=> ?_,λj a b hj h1 h2 ha hb=> ?_⟩,λa b h1 ha hb=> ?_⟩
 ·rw [g,if_neg (Ne.symm h1)]at ha;rw [g,if_neg (Ne.symm h2)]at hb;by_cases c1:i=j
  ·subst c1;rw [if_pos rfl]at ha;cases ha;have n:i≠par i:=by unfold par;omega
   rw [if_neg n]at hb;exact h.s2 m y b m0 hm hj hy hb
  ·rw [if_neg c1]at ha;by_cases c2:i=par j
   ·rw [if_pos c2]at hb;cases hb;exact hmin j a hj c2.symm ha
   ·rw [if_neg c2]at hb;exact h.s1 j a b hj (Ne.symm c1) (Ne.symm c2) ha hb
 ·have n1:m≠j:=by unfold par at *;omega
  have n2:i≠j:=by unfold par at *;omega
  rw [g,if_neg n1,if_neg n2]at ha;rw [g,hm,if_neg (Ne.symm hne),if_pos rfl]at hb;cases hb;exact h.s1 j a y hj (Ne.symm n2) (by rw [h1];exact Ne.symm hne) ha (by rw [h1];exact hy)
 ·rw [g,if_pos rfl]at ha;cases ha;rw [g,hm,if_neg (Ne.symm hne),if_pos rfl]at hb;cases hb;exact zee hlt
structure HpW where
 a:Option Addr
 c:Nat
 ch:Chunk
 bw:Nat
 l:List (Int×Int)
 wh:List Int
 row:Row 191 2 a l.length c encE l ch
 hl:wh.length≤1024
def hpC (b:Nat) (w:HpW):Chunk:=bk b 266 [.slice w.a w.l.length w.c,.slice (some (ad w.bw 0)) w.wh.length w.wh.length]++(w.ch++bk w.bw 3 (List.map (Value.int .i64) w.wh))
structure HpI (w:HpW) (tm:List Int):Prop where
 cns:Cns w.l w.wh tm
 ord:Hord w.l
theorem Cns.len {L:List (Int×Int)} {W tm:List Int} (h:Cns L W tm):L.length≤W.length:=by
 have hn:(L.map λx=>x.2.toNat).Nodup:=by
  refine List.pairwise_iff_getElem.2 λi j hi hj hij e=> ?_;simp only [JR]at hi hj;simp only [Qe]at e;have h1:=h.c1 i _ (JC hi);have h2:=h.c1 j _ (JC hj)
  have:=h.inj (JC hi) (JC hj) (by omega)
  omega
 have:=ze2 hn (n:=W.length) λi hi=>by
  obtain⟨x,hx,rfl⟩:=Jt.1 hi;obtain⟨j,hj⟩:=List.getElem?_of_mem hx
  have:=h.c1 j x hj
  omega
 simpa using this
section
variable {cs:St} {b:Nat} {w:HpW} {put:Chunk→St} {K:Value→SP}
instance hpRd:RdB (hpC b w::cs) b 266 [.slice w.a w.l.length w.c,.slice (some (ad w.bw 0)) w.wh.length w.wh.length]:=⟨Rd.in (i:=0) rfl (by simp [hpC,bk])⟩
instance hpRdW:RdB (hpC b w::cs) w.bw 3 (List.map (Value.int .i64) w.wh):=⟨Rd.in (i:=0) rfl (by simp [hpC,bk])⟩
instance hpRw:Rw 191 2 (hpC b w::cs) w.a w.l.length w.c encE w.l:=⟨by
 have h:=Row.rd w.row (cs:=[w.ch]) (put:=λc=>[c]) inferInstance;refine⟨h.len,h.cap,λhn=> ?_⟩;obtain⟨b',o,T,cells,h1,h2,h3⟩:=h.get hn;refine⟨b',o,T,cells,h1,?_,h3⟩;exact h2.mono λx hx=>by simp at hx;simp [hpC,hx]⟩
instance:ZeT 191 (.agg ⟨[.int .i64 0,.int .i64 0]⟩):=⟨by kernel_rfl⟩
instance {a:Addr} {i:Int}:Go1 (fn 261 [.pointer (some a),.int .i64 i] K cs) (s261 a i K cs):=⟨f261⟩
instance c241 [o:Ob hpC cs b w put] {i:Int} {x:Int×Int}:Go1 (fn 241 [.pointer (some (ad b 0)),.int .i64 i,.agg ⟨[.int .i64 x.1,.int .i64 x.2]⟩] K cs)
  (((0≤i∧i<w.l.length)∧0≤x.2∧x.2<w.wh.length)∧∀w':HpW,w'.l=w.l.set i.toNat x→w'.wh=w.wh.set x.2.toNat i→K undef (put (hpC b w'))):=⟨λ⟨⟨h1,h2,h3⟩,h⟩=>by
 have rr:=w.row;refine o.fn3 (bk b 266 [.slice w.a w.l.length w.c,.slice (some (ad w.bw 0)) w.wh.length w.wh.length]) w.ch (bk w.bw 3 (List.map (Value.int .i64) w.wh)) rfl λF=>f241 ?_;unfold s241;refine go ?_;intro g;refine⟨h1,x,rfl,λch' hr=>⟨⟨h2,h3⟩,by omega,?_⟩⟩;have hh:=h ⟨w.a,w.c,ch',w.bw,w.l.set i.toNat x,w.wh.set x.2.toNat i,by rw [JK];exact hr,by rw [JK];exact w.hl⟩ rfl rfl;simp only [hpC,JK]at hh;exact⟨_,_,_,drp,hh⟩⟩
instance c262 [o:Ob hpC cs b w put] {i:Nat}:Go1 (fn 262 [.pointer (some (ad b 0)),.int .i64 i] K cs)
  (∃tm e,w.l[i]? =some e∧Cns w.l (w.wh.set e.2.toNat i) tm∧Semi w.l i∧∀(w':HpW) (j:Nat),Cns w'.l w'.wh tm→Semi w'.l j→Above w'.l j→w'.l[j]? =some e→(Kids w.l i→Kids w'.l j)→w'.l.length=w.l.length→w'.wh.length=w.wh.length→K undef (put (hpC b w'))):=⟨λ⟨tm,e,he,hc,hs,h⟩=>by
 refine o.fn1 (hpC b w) rfl λF=>f262 ?_;have hi:=zaa he;unfold s262;refine go ?_;refine⟨⟨by omega,by omega⟩,λx hx g=> ?_⟩;rw [JE,he]at hx;cases hx;have hlen:=hc.len;have hl:=w.hl;have ce:=hc.c1 i e he;simp only [JK]at hlen ce;have e0:w.l.set i e=w.l:=zbt he;refine lp (λx:HpW×Nat=>[.int .i64 x.2]) (λx=>bk g 191 [.int .i64 e.1,.int .i64 e.2]::hpC b x.1::F)
  (λx=>x.1.l.length=w.l.length∧x.1.wh.length=w.wh.length∧Cns (x.1.l.set x.2 e) (x.1.wh.set e.2.toNat x.2) tm∧Semi (x.1.l.set x.2 e) x.2∧x.2<x.1.l.length∧(Kids w.l i→Kids (x.1.l.set x.2 e) x.2)) (λx=>x.2) (w,i) rfl (Imp.refl _) ⟨rfl,rfl,by rw [e0];exact hc,by rw [e0];exact hs,hi,by rw [e0];exact id⟩ ?_
 rintro⟨w1,i1⟩ ⟨l1,l2,k1,k2,k3,kk⟩;dsimp only at *;refine go ?_;have t1:0<i1→w64 ((w64 ((i1:Int)-1)).tdiv 2)=(par i1:Nat):=λh0=>by
  rw [zad (n:=(i1:Int)-1) (by omega),Int.tdiv_eq_ediv_of_nonneg (by omega),zad (by omega)];unfold par;omega
 simp only [gt_iff_lt,JD,JB];have last:∀w2:HpW,w2.l=w1.l.set i1 e→w2.wh=w1.wh.set e.2.toNat i1→Above (w1.l.set i1 e) i1→∃q1,Imp (bk g 191 [.int .i64 e.1,.int .i64 e.2]::hpC b w2::F) (q1::F)∧K undef (put q1):=λw2 q1 q2 ha=>
  ⟨_,drp,h w2 i1 (by rw [q1,q2];exact k1) (by rw [q1];exact k2) (by rw [q1];exact ha) (by rw [q1];simp [k3]) (by rw [q1];exact kk) (by rw [q1];simp [l1]) (by rw [q2];simp [l2])⟩
 refine⟨λc=> ?_,λc=>⟨⟨⟨by omega,by omega⟩,by omega,by omega⟩,λw2 q1 q2=>last w2 (by simpa using q1) q2 λ_ _ h0=>by omega⟩⟩;have h0:0<i1:=by omega
 rw [t1 h0];have hp:par i1<w1.l.length:=by unfold par;omega
 refine⟨⟨by omega,by omega⟩,λy hy=> ?_⟩;rw [JE]at hy;have hne:i1≠par i1:=by unfold par;omega
 have g1:(w1.l.set i1 e)[i1]? =some e:=by simp [k3]
 have g2:(w1.l.set i1 e)[par i1]? =some y:=by rw [JS hne];exact hy
 have cy:=k1.c1 _ y g2;simp only [JK]at cy;simp only [zz6];refine⟨λc1=>⟨⟨⟨by omega,by omega⟩,by omega,by omega⟩,λw2 q1 q2=>last w2 (by simpa using q1) q2 λa b' _ ha hb=> ?_⟩,λc1=>⟨⟨by omega,by omega⟩,λy' hy'=>⟨⟨⟨by omega,by omega⟩,?_,?_⟩,λw2 q1 q2=> ?_⟩⟩⟩
 ·rw [g1]at ha;cases ha;rw [g2]at hb;cases hb;exact c1
 ·rw [JE,hy]at hy';cases hy';exact cy.1
 ·rw [JE,hy]at hy';cases hy';exact cy.2.1
 ·rw [JE,hy]at hy';cases hy';rw [JE]at q1;have hxy:e.2≠y.2:=λee=>hne (k1.inj g1 g2 ee);have m1:=k1.move g1 g2 hne;have m2:=k2.up h0 g1 g2 c1;have m3:=k2.upKids h0 g1 g2 c1;rw [List.set_set]at m1 m2 m3;have e2:(w1.wh.set e.2.toNat i1).set y.2.toNat i1=(w1.wh.set y.2.toNat i1).set e.2.toNat i1:=List.set_comm _ _ (by omega);rw [e2,List.set_set]at m1;refine⟨(w2,par i1),by simp,Imp.refl _,⟨by simp only [q1,JK];exact l1,by simp only [q2,JK];exact l2,by simp only [q1,q2];exact m1,by simp only [q1];exact m2,by simp only [q1,JK];exact hp,λ_=>by simp only [q1];exact m3⟩,by simp only;unfold par;omega⟩⟩
instance c330 [o:Ob hpC cs b w put] {i:Nat}:Go1 (fn 330 [.pointer (some (ad b 0)),.int .i64 i] K cs)
  (∃tm e,w.l[i]? =some e∧Cns w.l w.wh tm∧Semi w.l i∧Above w.l i∧∀(w':HpW),HpI w' tm→w'.l.length=w.l.length→w'.wh.length=w.wh.length→K undef (put (hpC b w'))):=⟨λ⟨tm,e,he,hc,hs,hab,h⟩=>by
 refine o.fn1 (hpC b w) rfl λF=>f330 ?_;have hi:=zaa he;unfold s330;refine go ?_;refine⟨⟨by omega,by omega⟩,λx hx g=> ?_⟩;rw [JE,he]at hx;cases hx;have hlen:=hc.len;have hl:=w.hl;have ce:=hc.c1 i e he;have e0:w.l.set i e=w.l:=zbt he;have e1:w.wh.set e.2.toNat i=w.wh:=zbt (by
  have hlt:e.2.toNat<w.wh.length:=by omega
  rw [JC hlt]
  have:=ce.2.2.1
  rw [JA,JC hlt]at this;exact congrArg some this)
 refine lp (λx:HpW×Nat=>[.int .i64 x.2]) (λx=>bk g 191 [.int .i64 e.1,.int .i64 e.2]::hpC b x.1::F)
  (λx=>x.1.l.length=w.l.length∧x.1.wh.length=w.wh.length∧Cns (x.1.l.set x.2 e) (x.1.wh.set e.2.toNat x.2) tm∧Semi (x.1.l.set x.2 e) x.2∧Above (x.1.l.set x.2 e) x.2∧x.2<x.1.l.length) (λx=>x.1.l.length-x.2) (w,i) rfl (Imp.refl _) ⟨rfl,rfl,by rw [e0,e1];exact hc,by rw [e0];exact hs,by rw [e0];exact hab,hi⟩ ?_
 rintro⟨w1,i1⟩ ⟨l1,l2,k1,k2,k4,k3⟩;dsimp only at *;refine goj ?_;have g1:(w1.l.set i1 e)[i1]? =some e:=by simp [k3]
 have hb1:w64 (w64 (2*(i1:Int))+1)=(2*i1+1:Nat):=by rw [zad (n:=2*(i1:Int)) (by omega),zad (by omega)];omega
 have hb2:w64 (((2*i1+1:Nat):Int)+1)=(2*i1+2:Nat):=by rw [zad (by omega)];omega
 simp only [hb1,hb2,ge_iff_le,JD,JB,zz6,z3d,JE];have last:(∀(j:Nat) (x y:Int×Int),0<j→par j=i1→(w1.l.set i1 e)[j]? =some x→(w1.l.set i1 e)[i1]? =some y→lexle y x)→∀w2:HpW,w2.l=w1.l.set i1 e→w2.wh=w1.wh.set e.2.toNat i1→∃q1,Imp (bk g 191 [.int .i64 e.1,.int .i64 e.2]::hpC b w2::F) (q1::F)∧K undef (put q1):=λhch w2 q1 q2=>
  ⟨_,drp,h w2 ⟨by rw [q1,q2];exact k1,by rw [q1];exact k2.hord k4 hch⟩ (by rw [q1];simp [l1]) (by rw [q2];simp [l2])⟩
 have step:∀(m:Nat) (y:Int×Int),0<m→par m=i1→w1.l[m]? =some y→¬lexle e y→(∀(j:Nat) (z:Int×Int),0<j→par j=i1→w1.l[j]? =some z→lexle y z)→∀w2:HpW,w2.l=w1.l.set i1 y→w2.wh=w1.wh.set y.2.toNat i1→
   ∃x':HpW×Nat,[Value.int .i64 (m:Int)]=[Value.int .i64 (x'.2:Int)]∧Imp (bk g 191 [.int .i64 e.1,.int .i64 e.2]::hpC b w2::F) (bk g 191 [.int .i64 e.1,.int .i64 e.2]::hpC b x'.1::F)∧
    (x'.1.l.length=w.l.length∧x'.1.wh.length=w.wh.length∧Cns (x'.1.l.set x'.2 e) (x'.1.wh.set e.2.toNat x'.2) tm∧Semi (x'.1.l.set x'.2 e) x'.2∧Above (x'.1.l.set x'.2 e) x'.2∧x'.2<x'.1.l.length)∧x'.1.l.length-x'.2<w1.l.length-i1:=λm y m0 hm hy hlt hmin w2 q1 q2=>by
  have hne:i1≠m:=by unfold par at hm;omega
  have lm:=zaa hy;have g2:(w1.l.set i1 e)[m]? =some y:=by rw [JS hne];exact hy
  have hxy:e.2≠y.2:=λee=>hne (k1.inj g1 g2 ee);have cy:=k1.c1 _ y g2;have m1:=k1.move g1 g2 hne;have m2:=k2.down hm m0 g1 g2 hlt (λj z j0 hj hz=>hmin j z j0 hj (by rw [JS (by unfold par at hj;omega)]at hz;exact hz));rw [List.set_set]at m1 m2;have e2:(w1.wh.set e.2.toNat i1).set y.2.toNat i1=(w1.wh.set y.2.toNat i1).set e.2.toNat i1:=List.set_comm _ _ (by omega);rw [e2,List.set_set]at m1;refine⟨(w2,m),rfl,Imp.refl _,⟨by simp only [q1,JK];exact l1,by simp only [q2,JK];exact l2,by simp only [q1,q2];exact m1,by simp only [q1];exact m2.1,by simp only [q1];exact m2.2,by simp only [q1,JK];exact lm⟩,?_⟩;simp only [q1,JK];unfold par at hm;omega
 have kids:∀j,0<j→par j=i1→j=2*i1+1∨j=2*i1+2:=λj j0 hj=>by unfold par at hj;omega
 have cyOf:∀(m:Nat) (y:Int×Int),i1≠m→w1.l[m]? =some y→0≤y.2∧y.2<w1.wh.length:=λm y hne hy=>by
  have g2:(w1.l.set i1 e)[m]? =some y:=by rw [JS hne];exact hy
  have:=k1.c1 _ y g2
  simp only [JK]at this;exact⟨this.1,this.2.1⟩
 have kept:∀(m:Nat) (y:Int×Int),w1.l[m]? =some y→(∀(j:Nat) (z:Int×Int),0<j→par j=i1→w1.l[j]? =some z→lexle y z)→lexle e y→∀(j:Nat) (x y:Int×Int),0<j→par j=i1→(w1.l.set i1 e)[j]? =some x→(w1.l.set i1 e)[i1]? =some y→lexle y x:=λm y hy hmin hle j x z j0 hj hx hz=>by
  rw [g1]at hz;cases hz;rw [JS (by unfold par at hj;omega)]at hx;exact zc5 hle (hmin j x j0 hj hx)
 refine⟨λc=>⟨⟨⟨by omega,by omega⟩,ce.1,by omega⟩,last λj x y j0 hj hx _=> ?_⟩,λc=>⟨λc2=>⟨⟨by omega,by omega⟩,λx hx=>⟨⟨by omega,by omega⟩,λx2 hx2=>⟨λc3=> ?_,λc3=> ?_⟩⟩⟩,λc2=> ?_⟩⟩
 ·have:=zaa hx
  simp only [JK]at this
  have:=kids j j0 hj
  omega
 ·have hm2:∀y,w1.l[2*i1+2]? =some y→∀(j:Nat) (z:Int×Int),0<j→par j=i1→w1.l[j]? =some z→lexle y z:=λy hy j z j0 hj hz=>by
   rw [hx]at hy;cases hy;rcases kids j j0 hj with rfl | rfl
   ·rw [hx2]at hz;cases hz;exact zee c3
   ·rw [hx]at hz;cases hz;exact zfp _
  refine⟨⟨by omega,by omega⟩,λy hy=>⟨λc4=>⟨⟨⟨by omega,by omega⟩,ce.1,by omega⟩,last (kept _ y hy (hm2 y hy) c4)⟩,λc4=>⟨⟨by omega,by omega⟩,λy' hy'=> ?_⟩⟩⟩;rw [hy]at hy';cases hy'
  have:=cyOf _ y (by omega) hy
  exact⟨⟨⟨by omega,by omega⟩,this.1,this.2⟩,step _ y (by omega) (by unfold par;omega) hy c4 (hm2 y hy)⟩
 ·have hm1:∀y,w1.l[2*i1+1]? =some y→∀(j:Nat) (z:Int×Int),0<j→par j=i1→w1.l[j]? =some z→lexle y z:=λy hy j z j0 hj hz=>by
   rw [hx2]at hy;cases hy;rcases kids j j0 hj with rfl | rfl
   ·rw [hx2]at hz;cases hz;exact zfp _
   ·rw [hx]at hz;cases hz;exact Classical.byContradiction λhh=>c3 hh
  refine⟨⟨by omega,by omega⟩,λy hy=>⟨λc4=>⟨⟨⟨by omega,by omega⟩,ce.1,by omega⟩,last (kept _ y hy (hm1 y hy) c4)⟩,λc4=>⟨⟨by omega,by omega⟩,λy' hy'=> ?_⟩⟩⟩;rw [hy]at hy';cases hy'
  have:=cyOf _ y (by omega) hy
  exact⟨⟨⟨by omega,by omega⟩,this.1,this.2⟩,step _ y (by omega) (by unfold par;omega) hy c4 (hm1 y hy)⟩
 ·have hm1:∀y,w1.l[2*i1+1]? =some y→∀(j:Nat) (z:Int×Int),0<j→par j=i1→w1.l[j]? =some z→lexle y z:=λy hy j z j0 hj hz=>by
   rcases kids j j0 hj with rfl | rfl
   ·rw [hy]at hz;cases hz;exact zfp _
   ·have:=zaa hz;omega
  refine⟨⟨by omega,by omega⟩,λy hy=>⟨λc4=>⟨⟨⟨by omega,by omega⟩,ce.1,by omega⟩,last (kept _ y hy (hm1 y hy) c4)⟩,λc4=>⟨⟨by omega,by omega⟩,λy' hy'=> ?_⟩⟩⟩;rw [hy]at hy';cases hy'
  have:=cyOf _ y (by omega) hy
  exact⟨⟨⟨by omega,by omega⟩,this.1,this.2⟩,step _ y (by omega) (by unfold par;omega) hy c4 (hm1 y hy)⟩⟩
instance c242 [o:Ob hpC cs b w put] {i:Nat}:Go1 (fn 242 [.pointer (some (ad b 0)),.int .i64 i] K cs)
  (∃tm,i<w.l.length∧Cns w.l w.wh tm∧Semi w.l i∧∀(w':HpW),HpI w' tm→w'.l.length=w.l.length→w'.wh.length=w.wh.length→K undef (put (hpC b w'))):=⟨λ⟨tm,hi,hc,hs,h⟩=>by
 refine o.fn1 (hpC b w) rfl λF=>f242 ?_;unfold s242;refine go ?_;refine⟨⟨by omega,by omega⟩,λx hx=>⟨tm,x,hx,by rw [hc.same (i:=i) hx];exact hc,hs,λw1 j k1 k2 k3 k4 _ k5 k6=> ?_⟩⟩;have cx:=hc.c1 _ x hx;have cj:=k1.c1 j x k4;refine⟨⟨by omega,by omega⟩,by omega,?_⟩;rw [cj.2.2.1];refine go ⟨tm,x,k4,k1,k2,k3,λw2 h1 h2 h3=>⟨_,drp,h w2 h1 (by omega) (by omega)⟩⟩⟩
theorem Cns.drop {L:List (Int×Int)} {W tm:List Int} (h:Cns L W tm) {i:Nat} {x:Int×Int} (hi:L[i]? =some x) (hl:i=L.length-1):
  Cns (L.take (L.length-1)) (W.set x.2.toNat (-1)) (tm.set x.2.toNat never):=by
 have a1:=h.c1 i x hi;have li:=zaa hi;refine⟨λj z hj=> ?_,λk hk=> ?_,λk hk=> ?_,by simp [h.tl]⟩
 ·have hjl:j<L.length-1:=by have:=zaa hj;simp at this;omega
  rw [Jz hjl]at hj;have a2:=h.c1 j z hj;have hne:z.2≠x.2:=λe=>by have:=h.inj hj hi e;omega
  simp only [JK];rw [zai _ _ _ _ _ (by omega),if_neg (by omega),zai _ _ _ _ _ (by rw [h.tl];omega),if_neg (by omega)];exact a2
 ·simp only [JK]at hk;rw [zai _ _ _ _ _ (by omega)];by_cases c:x.2.toNat=k
  ·rw [if_pos c];exact .inl rfl
  ·rw [if_neg c];rcases h.c2 k hk with h1 | ⟨j,z,h1,h2,h3⟩
   ·exact .inl h1
   ·refine .inr ⟨j,z,h1,?_,h3⟩;have hj:=zaa h2;have hne:j≠i:=λe=>by subst e;rw [hi]at h2;cases h2;omega
    rw [Jz (by omega)];exact h2
 ·simp only [JK]at hk;rw [zai _ _ _ _ _ (by omega),zai _ _ _ _ _ (by rw [h.tl];omega)];by_cases c:x.2.toNat=k
  ·intro _;rw [if_pos c]
  ·rw [if_neg c,if_neg c];exact h.c3 k hk
instance c159 [o:Ob hpC cs b w put] {i:Nat}:Go1 (fn 159 [.pointer (some (ad b 0)),.int .i64 i] K cs)
  (∃tm e,w.l[i]? =some e∧HpI w tm∧∀(w':HpW),HpI w' (tm.set e.2.toNat never)→w'.l.length=w.l.length-1→w'.wh.length=w.wh.length→K undef (put (hpC b w'))):=⟨λ⟨tm,e,he,hI,h⟩=>by
 have rr:=w.row;have hi:=zaa he;have hlen:=hI.cns.len;have hl:=w.hl;have ce:=hI.cns.c1 i e he;refine o.fn3 (bk b 266 [.slice w.a w.l.length w.c,.slice (some (ad w.bw 0)) w.wh.length w.wh.length]) w.ch (bk w.bw 3 (List.map (Value.int .i64) w.wh)) rfl λF=>f159 ?_;unfold s159;refine go ?_;have e1:w64 ((w.l.length:Int)-1)=(w.l.length-1:Nat):=by rw [zad (by omega)];omega
 simp only [e1,JE,JD,JB];refine⟨⟨by omega,by omega⟩,λx hx=> ?_⟩;rw [he]at hx;cases hx;refine⟨⟨ce.1,ce.2.1⟩,by omega,⟨by omega,by omega⟩,λy hy g=>⟨⟨by omega,by omega⟩,λhr=>⟨λc=> ?_,λc=> ?_⟩⟩⟩
 ·have cy:=hI.cns.c1 _ y hy;have hne:i≠w.l.length-1:=by omega
  have m1:=(hI.cns.move he hy hne).drop (i:=w.l.length-1) (x:=e) (by rw [Jy,if_pos rfl,if_pos (by simp only [JK];omega)]) (by simp only [JK]);have hidne:e.2≠y.2:=λee=>hne (hI.cns.inj he hy ee);have t1:List.take (((w.l.set i y).set (w.l.length-1) e).length-1) ((w.l.set i y).set (w.l.length-1) e)=(w.l.take (w.l.length-1)).set i y:=by
   simp only [JK];rw [List.take_set_of_le (JG _),List.take_set]
  have t2:(((w.wh.set y.2.toNat i).set e.2.toNat (w.l.length-1:Nat)).set e.2.toNat (-1))=(w.wh.set e.2.toNat (-1)).set y.2.toNat i:=by
   rw [List.set_set,List.set_comm _ _ (by omega)]
  rw [t1,t2]at m1;have s1:Semi ((w.l.take (w.l.length-1)).set i y) i:=by
   have:=(hI.ord.semi y (i:=i))
   have hsub:∀(j:Nat) z,((w.l.take (w.l.length-1)).set i y)[j]? =some z→(w.l.set i y)[j]? =some z:=λj z hz=>by
    rw [←List.take_set]at hz;rw [List.getElem?_take]at hz;split at hz
    ·exact hz
    ·cases hz
   exact⟨λj a b' h0 h1 h2 h3 h4=>this.s1 j a b' h0 h1 h2 (hsub _ _ h3) (hsub _ _ h4),λj a b' h0 h1 h2 h3 h4=>this.s2 j a b' h0 h1 h2 (hsub _ _ h3) (hsub _ _ h4)⟩
  have htl:(w.l.take (w.l.length-1)).length=w.l.length-1:=by simp
  have hr':Row 191 2 w.a (w.l.take (w.l.length-1)).length w.c encE (w.l.take (w.l.length-1)) w.ch:=by rw [htl];exact hr
  refine zaj (cs':=bk g 191 [.int .i64 y.1,.int .i64 y.2]::hpC b ⟨w.a,w.c,w.ch,w.bw,w.l.take (w.l.length-1),w.wh.set e.2.toNat (-1),hr',by simp [w.hl]⟩::F) ?_ ?_
  ·simp only [hpC,htl,JK];exact drp
  ·refine go ?_;dsimp only;refine⟨⟨⟨by omega,by rw [htl];omega⟩,cy.1,by simp;omega⟩,λw2 q1 q2=>⟨tm.set e.2.toNat never,by rw [q1];simp;omega,by rw [q1,q2];exact m1,by rw [q1];exact s1,λw3 k1 k2 k3=> ?_⟩⟩;obtain⟨p1,p2⟩:w3.l.length=w.l.length-1∧w3.wh.length=w.wh.length:=⟨by rw [k2,q1];simp,by rw [k3,q2];simp⟩;have hh:=h w3 k1 p1 p2;simp only [hpC]at hh;refine⟨_,_,_,?_,hh⟩;simp only [hpC];have d:Imp (bk g 191 [.int .i64 y.1,.int .i64 y.2]::(bk b 266 [.slice w3.a w3.l.length w3.c,.slice (some (ad w3.bw 0)) w3.wh.length w3.wh.length]++(w3.ch++bk w3.bw 3 (List.map (Value.int .i64) w3.wh)))::F) (bk b 266 [.slice w3.a w3.l.length w3.c,.slice (some (ad w3.bw 0)) w3.wh.length w3.wh.length]::w3.ch::bk w3.bw 3 (List.map (Value.int .i64) w3.wh)::F):=by
    refine Imp.of_sub (l:=bk g 191 [.int .i64 y.1,.int .i64 y.2]) ?_
    have:=List.perm_append_comm (l₁:=bk b 266 [.slice w3.a w3.l.length w3.c,.slice (some (ad w3.bw 0)) w3.wh.length w3.wh.length]++(w3.ch++(bk w3.bw 3 (List.map (Value.int .i64) w3.wh)++F.flatten))) (l₂:=bk g 191 [.int .i64 y.1,.int .i64 y.2])
    simpa only [JV,JO]using this
   exact d
 ·have hie:i=w.l.length-1:=by omega
  have m1:=hI.cns.drop he hie;have htl:(w.l.take (w.l.length-1)).length=w.l.length-1:=by simp
  have hh:=h ⟨w.a,w.c,w.ch,w.bw,w.l.take (w.l.length-1),w.wh.set e.2.toNat (-1),by rw [htl];exact hr,by simp [w.hl]⟩ ⟨m1,λj a b' h0 h1 h2=>by
   have hsub:∀(j:Nat) z,(w.l.take (w.l.length-1))[j]? =some z→w.l[j]? =some z:=λj z hz=>by
    rw [List.getElem?_take]at hz;split at hz
    ·exact hz
    ·cases hz
   exact hI.ord j a b' h0 (hsub _ _ h1) (hsub _ _ h2)⟩ htl (by simp)
  simp only [hpC,htl,JK]at hh;exact⟨_,_,_,drp,hh⟩⟩
end
theorem zcu:∀(tm:List Int) (k:Nat),(∀t∈tm,t≤never)→match tmMin tm k with
  | none=>∀i,i<tm.length→tm.getD i 0=never
  | some (t,j)=>k≤j∧j-k<tm.length∧tm.getD (j-k) 0=t∧t≠never∧∀i,i<tm.length→tm.getD i 0≠never→lexle (t,j) (tm.getD i 0,((k+i:Nat):Int))
 | [],k,_=>by simp [tmMin]
 | t::r,k,h=>by
  have ih:=zcu r (k+1) λx hx=>h x (Jo _ hx);have ht:=h t QE;simp only [tmMin];cases hm:tmMin r (k+1)with
  | none=>
   rw [hm]at ih;simp only at ih ⊢;by_cases c:t=never
   ·rw [if_pos c];intro i hi;cases i with
    | zero=>simpa using c
    | succ i=>simpa using ih i (by simpa using hi)
   ·rw [if_neg c];refine⟨JG _,by simp,by simp,c,λi hi hn=> ?_⟩;cases i with
    | zero=>simp [lexle]
    | succ i=>exact absurd (by simpa using ih i (by simpa using hi)) hn
  | some x=>
   obtain⟨t',k'⟩:=x;rw [hm]at ih;simp only at ih ⊢;obtain⟨h1,h2,h3,h4,h5⟩:=ih;have ht':t'≤never:=by
    have:t'∈r:=by rw [←h3,JA,JC h2];exact Jq _
    exact h t' (Jo _ this)
   by_cases c:t≤t'
   ·rw [if_pos c];refine⟨JG _,by simp,by simp,by omega,λi hi hn=> ?_⟩;cases i with
    | zero=>simp [lexle]
    | succ i=>
     have:=h5 i (by simpa using hi) (by simpa using hn)
     simp only [List.getD_cons_succ];unfold lexle at this ⊢;simp only at this ⊢;omega
   ·rw [if_neg c];have e:k'-k=(k'-(k+1))+1:=by omega
    refine⟨by omega,by simp;omega,by rw [e];simpa using h3,h4,λi hi hn=> ?_⟩;cases i with
    | zero=>
     simp only [List.getD_cons_zero]at hn ⊢;unfold lexle;simp only;omega
    | succ i=>
     have:=h5 i (by simpa using hi) (by simpa using hn)
     simp only [List.getD_cons_succ];rw [show k+(i+1)=k+1+i by omega];exact this
theorem Cns.le {L:List (Int×Int)} {W tm:List Int} (h:Cns L W tm):∀t∈tm,t≤never:=by
 intro t ht;obtain⟨k,hk,rfl⟩:=List.getElem_of_mem ht;have hkW:k<W.length:=by rw [←h.tl];exact hk
 have e:tm[k]=tm.getD k 0:=by rw [JA,JC hk];rfl
 rw [e];rcases h.c2 k hkW with h1 | ⟨i,x,h1,h2,h3⟩
 ·rw [h.c3 k hkW h1];exact Int.le_refl _
 ·have:=h.c1 i x h2
  rw [show x.2.toNat=k by omega]at this;omega
theorem Hord.root {L:List (Int×Int)} (h:Hord L) {y:Int×Int} (hy:L[0]? =some y):∀(n i:Nat) (x:Int×Int),i<n→L[i]? =some x→lexle y x
 | 0,i,x,hn,_=>absurd hn (Nat.not_lt_zero _)
 | n+1,i,x,hn,hx=>by
  by_cases c:i=0
  ·subst c;rw [hy]at hx;cases hx;exact zfp _
  ·have hp:par i<L.length:=by have:=zaa hx;unfold par;omega
   have h1:=h.root hy n (par i) _ (by unfold par;omega) (JC hp);exact zc5 h1 (h i x _ (by omega) hx (JC hp))
theorem HpI.none {w:HpW} {tm:List Int} (h:HpI w tm) (hl:w.l=[]):tmMin tm 0=none:=by
 have:=zcu tm 0 h.cns.le
 cases hm:tmMin tm 0 with
 | none=>rfl
 | some x=>
  obtain⟨t,j⟩:=x;rw [hm]at this;simp only at this;obtain⟨h1,h2,h3,h4,_⟩:=this;have hj:j<w.wh.length:=by rw [←h.cns.tl];omega
  rcases h.cns.c2 j hj with q | ⟨i,x,q1,q2,q3⟩
  ·have:=h.cns.c3 j hj q;rw [Nat.sub_zero]at h3;omega
  ·rw [hl]at q2;simp at q2
theorem HpI.some {w:HpW} {tm:List Int} (h:HpI w tm) {y:Int×Int} (hl:w.l[0]? =some y):tmMin tm 0=some (y.1,y.2.toNat):=by
 have sp:=zcu tm 0 h.cns.le;have cy:=h.cns.c1 0 y hl;cases hm:tmMin tm 0 with
 | none=>
  rw [hm]at sp;simp only at sp
  have:=sp y.2.toNat (by rw [h.cns.tl];omega)
  omega
 | some x=>
  obtain⟨t,j⟩:=x;rw [hm]at sp;simp only at sp;obtain⟨h1,h2,h3,h4,h5⟩:=sp;simp only [Nat.sub_zero]at h2 h3;have hj:j<w.wh.length:=by rw [←h.cns.tl];omega
  have a1:=h5 y.2.toNat (by rw [h.cns.tl];omega) (by omega);rw [cy.2.2.2.1]at a1;rcases h.cns.c2 j hj with q | ⟨i,x,q1,q2,q3⟩
  ·have:=h.cns.c3 j hj q;omega
  ·have a2:=h.ord.root hl (i+1) i x (Nat.lt_succ_self _) q2;have cx:=h.cns.c1 i x q2;rw [show x.2.toNat=j by omega]at cx;unfold lexle at a1 a2;simp only at a1 a2;have e1:t=y.1:=by omega
   have e2:j=y.2.toNat:=by omega
   rw [e1,e2]
section
variable {cs:St} {b:Nat} {w:HpW} {put:Chunk→St} {K:Value→SP}
instance c157 [o:Ob hpC cs b w put]:Go1 (fn 157 [.pointer (some (ad b 0))] K cs)
  ((w.l=[]→K (.tuple ⟨[.agg ⟨[.int .i64 0,.int .i64 0]⟩,.bool false]⟩) cs)∧(∀y,w.l[0]? =some y→K (.tuple ⟨[.agg ⟨[.int .i64 y.1,.int .i64 y.2]⟩,.bool true]⟩) cs)):=⟨λ⟨h0,h1⟩=>o.fn1 (hpC b w) rfl λF=>f157 (by
 unfold s157;refine goj ?_;intro g;rw [←o.same]at h0 h1;simp only [Jd,JL];refine⟨λc=>⟨_,drp,h0 (List.eq_nil_of_length_eq_zero (by omega))⟩,λc=>⟨⟨by omega,by omega⟩,λx hx=>⟨_,drp,h1 x hx⟩⟩⟩)⟩
instance c81 {x:Int}:Go1 (fn 81 [.int .i64 x] K cs) (∀b w,HpI w (List.replicate (min (max x 1) 1024).toNat never)→(w.wh.length:Int)=min (max x 1) 1024→K (.pointer (some (ad b 0))) (hpC b w::cs)):=⟨λh=>up0 (f81 (by
 unfold s81;have e:(if 1024<if 1>x then 1 else x then 1024 else if 1>x then 1 else x)=min (max x 1) 1024:=by omega
 rw [e];have hx:1≤min (max x 1) 1024∧min (max x 1) 1024≤1024:=by omega
 obtain⟨m,hm⟩:∃m:Nat,min (max x 1) 1024=m:=⟨(min (max x 1) 1024).toNat,by omega⟩;rw [hm]at h hx ⊢;simp only [JE]at h;refine go ?_;refine⟨by omega,λbw b=> ?_⟩;refine lp (λi:Nat=>[.int .i64 i]) (λi=>bk b 266 [.slice none 0 0,.slice (some (ad bw 0)) m m]::bk bw 3 (List.map (Value.int .i64) (List.replicate i (-1)++List.replicate (m-i) 0))::cs) (λi=>i≤m) (λi=>m-i) 0 rfl (by simp only [List.replicate_zero,JF,Nat.sub_zero,JE];exact drp) (JJ _) ?_;intro i hi;refine go ?_;simp only [JE,JD,JB];refine⟨λc=>⟨⟨by omega,by omega⟩,by simp;omega,⟨i+1,by rw [zad (by omega)];simp,?_,by omega,by omega⟩⟩,λc=> ?_⟩
 ·have:(List.replicate i (-1:Int)++List.replicate (m-i) 0).set i (-1)=List.replicate (i+1) (-1)++List.replicate (m-(i+1)) 0:=by
   rw [Qg _ _ (by simp)];simp only [QG,Nat.sub_self];obtain⟨d,hd⟩:∃d,m-i=d+1:=⟨m-i-1,by omega⟩;rw [hd,show m-(i+1)=d by omega,List.replicate_succ,List.set_cons_zero,List.replicate_succ' (n:=i),JO];rfl
  rw [this];exact drp
 ·have him:i=m:=by omega
  subst him;have hh:=h b ⟨none,0,[],bw,[],List.replicate i (-1),⟨Sl.nil⟩,by simp;omega⟩ ⟨⟨λj y hj=>by simp at hj,λk hk=> .inl (by
    simp only [QG]at hk;simp [JA,QD,hk]),λk hk _=>by
    simp only [QG]at hk;simp [JA,QD,hk],by simp⟩,λj y z _ hj=>by simp at hj⟩ (by simp)
  simp only [hpC,QG,Qk]at hh;simp only [Nat.sub_self,List.replicate_zero,Jj];exact fin hh))⟩
theorem Cns.push {L:List (Int×Int)} {W tm:List Int} (h:Cns L W tm) {k:Nat} {t:Int} (hk:k<W.length) (hw:W.getD k 0= -1) (ht:0≤t∧t<never):
  Cns (L++[(t,(k:Int))]) (W.set k L.length) (tm.set k t):=by
 have hne:∀(j:Nat) z,L[j]? =some z→z.2.toNat≠k:=λj z hj e=>by
  have:=(h.c1 j z hj).2.2.1
  rw [e]at this;omega
 refine⟨λj z hj=> ?_,λi hi=> ?_,λi hi=> ?_,by simp [h.tl]⟩
 ·simp only [JK];rw [zai _ _ _ _ _ hk,zai _ _ _ _ _ (by rw [h.tl];exact hk)];by_cases c:j<L.length
  ·rw [JY c]at hj;have a:=h.c1 j z hj;rw [if_neg (Ne.symm (hne j z hj)),if_neg (Ne.symm (hne j z hj))];exact a
  ·have hl:=zaa hj;simp only [JH,JP]at hl
   have:j=L.length:=by omega
   subst this;simp at hj;subst hj;exact⟨by simp,by simp only;omega,by simp,by simp,ht.1,ht.2⟩
 ·simp only [JK]at hi;rw [zai _ _ _ _ _ hk];by_cases c:k=i
  ·exact .inr ⟨L.length,(t,(k:Int)),by rw [if_pos c],by simp,by simp [c]⟩
  ·rw [if_neg c];rcases h.c2 i hi with q | ⟨j,x,q1,q2,q3⟩
   ·exact .inl q
   ·exact .inr ⟨j,x,q1,by rw [JY (zaa q2)];exact q2,q3⟩
 ·simp only [JK]at hi;rw [zai _ _ _ _ _ hk,zai _ _ _ _ _ (by rw [h.tl];exact hk)];by_cases c:k=i
  ·rw [if_pos c];intro q;omega
  ·rw [if_neg c,if_neg c];exact h.c3 i hi
theorem Cns.again {L:List (Int×Int)} {W tm:List Int} (h:Cns L W tm) {i:Nat} {x:Int×Int} {t:Int} (hi:L[i]? =some x) (ht:0≤t∧t<never):Cns (L.set i (t,x.2)) W (tm.set x.2.toNat t):=by
 have cx:=h.c1 i x hi;have li:=zaa hi;refine⟨λj z hj=> ?_,λk hk=> ?_,λk hk=> ?_,by simp [h.tl]⟩
 ·rw [zai _ _ _ _ _ (by rw [h.tl];omega)];rw [Jy]at hj;by_cases c:i=j
  ·rw [if_pos c,if_pos (by omega)]at hj;cases hj;exact⟨cx.1,cx.2.1,by rw [←c];exact cx.2.2.1,by simp,ht.1,ht.2⟩
  ·rw [if_neg c]at hj;have a:=h.c1 j z hj
   have:x.2.toNat≠z.2.toNat:=λe=>c (h.inj hi hj (by omega))
   rw [if_neg this];exact a
 ·rcases h.c2 k hk with q | ⟨j,z,q1,q2,q3⟩
  ·exact .inl q
  ·by_cases c:i=j
   ·subst c;rw [hi]at q2;cases q2;exact .inr ⟨i,(t,x.2),q1,by simp [li],q3⟩
   ·exact .inr ⟨j,z,q1,by rw [JS c];exact q2,q3⟩
 ·intro q;rw [zai _ _ _ _ _ (by rw [h.tl];omega)]
  have:=h.c3 k hk q
  by_cases c:x.2.toNat=k
  ·rw [c]at cx;omega
  ·rw [if_neg c];exact this
theorem zq5 {w:HpW} {tm:List Int} (h:HpI w tm) {k:Nat} (hk:k<w.wh.length) (hw:w.wh.getD k 0= -1):tm.set k never=tm:=by
 refine zbt ?_
 have:=h.cns.c3 k hk hw
 have hl:k<tm.length:=by rw [h.cns.tl];exact hk
 rw [JA,JC hl]at this;rw [JC hl];exact congrArg some this
instance c166 [o:Ob hpC cs b w put] {k t:Int}:Go1 (fn 166 [.pointer (some (ad b 0)),.int .i64 k,.int .i64 t] K cs)
  (∃tm,((0≤k∧k<w.wh.length)∧t≤never)∧HpI w tm∧∀(w':HpW),HpI w' (tmSet tm k.toNat t)→w'.wh.length=w.wh.length→∀r,K (.bool r) (put (hpC b w'))):=⟨λ⟨tm,⟨⟨hk0,hk1⟩,ht⟩,hI,h⟩=>by
 have hlen:=hI.cns.len;have hl:=w.hl;have hkk:((k.toNat:Nat):Int)=k:=by omega
 have hkl:k.toNat<w.wh.length:=by omega
 have key:w.wh.getD k.toNat 0≠-1→∃(i:Nat) (x:Int×Int),w.wh.getD k.toNat 0=i∧w.l[i]? =some x∧x.2=k:=λc=>by
  rcases hI.cns.c2 k.toNat hkl with q | ⟨i,x,q1,q2,q3⟩
  ·exact absurd q c
  ·exact⟨i,x,q1,q2,by omega⟩
 by_cases cn:t=never
 ·subst cn;have hts:tmSet tm k.toNat never=tm.set k.toNat never:=by simp [tmSet]
  rw [hts]at h;refine o.fn1 (hpC b w) rfl λF=>f166 ?_;unfold s166;have hb:((never:Int) == 9223372036854775807)=true:=by decide
  simp only [hb];refine go ?_;simp only [ge_iff_le,Jd,JL,QJ,ne_eq,QC,Jc,Jl,JD,JB];refine⟨λ_=>⟨λc=>absurd hk1 c,λ_ g=>⟨⟨hk0,hk1⟩,hkl,λc=> ?_,λc=>⟨_,drp,h w (by rw [zq5 hI hkl c];exact hI) rfl true⟩⟩⟩,λc=>absurd hk0 c⟩;obtain⟨i,x,q1,q2,q3⟩:=key c;rw [q1];refine go ⟨tm,x,q2,hI,λw2 h1 h2 h3=>⟨_,drp,h w2 (by rw [←q3];exact h1) h3 true⟩⟩
 ·have hb:(t == 9223372036854775807)=false:=by simpa using cn
  have hown:0≤own t∧own t<never:=by have:=nev;unfold own;omega
  have hts:tmSet tm k.toNat t=tm.set k.toNat (own t):=by simp [tmSet,cn]
  rw [hts]at h;have rr:=w.row;refine o.fn3 (bk b 266 [.slice w.a w.l.length w.c,.slice (some (ad w.bw 0)) w.wh.length w.wh.length]) w.ch (bk w.bw 3 (List.map (Value.int .i64) w.wh)) rfl λF=>f166 ?_;unfold s166;simp only [hb];refine go ?_;simp only [ge_iff_le,Jd,JL,QJ,ne_eq,QC,Jc,Jl,JD,JB];refine⟨λ_=>⟨λc=>absurd hk1 c,λ_ g=>⟨⟨hk0,hk1⟩,hkl,λc=> ?_,λc=> ?_⟩⟩,λc=>absurd hk0 c⟩
  ·refine⟨by omega,λg2=>⟨⟨by omega,by omega⟩,(own t,k),rfl,λa' c' ch' hr=> ?_⟩⟩;have e1:w64 (((w.l.length+1:Nat):Int)-1)=(w.l.length:Nat):=by rw [zad (by omega)];omega
   rw [e1];have hr':Row 191 2 a' (w.l++[(own t,k)]).length c' encE (w.l++[(own t,k)]) ch':=by rw [JH];exact hr
   refine zaj (cs':=hpC b ⟨a',c',ch',w.bw,w.l++[(own t,k)],w.wh,hr',w.hl⟩::F) ?_ ?_
   ·simp only [hpC,JH,JP];exact drp
   ·have m1:=hI.cns.push hkl c hown;rw [hkk]at m1;refine go ?_;dsimp only;refine⟨tm.set k.toNat (own t),(own t,k),by simp,m1,⟨λj x y h0 h1 h2 h3 h4=> ?_,λj x y h0 h1 h2 h3 h4=> ?_⟩,λw3 j k1 k2 k3 k4 k7 k5 k6=> ?_⟩
    ·have l3:=zaa h3;simp only [JH,JP]at l3;rw [JY (by omega)]at h3;rw [JY (by unfold par;omega)]at h4;exact hI.ord j x y h0 h3 h4
    ·have l3:=zaa h3;simp only [JH,JP]at l3;unfold par at h1;omega
    ·have ho:Hord w3.l:=k2.hord k3 (k7 λj x y h0 h1 h2 h3=>by
      have l2:=zaa h2;simp only [JH,JP]at l2;unfold par at h1;omega)
     have hh:=h w3 ⟨k1,ho⟩ (by rw [k6]) true;exact⟨_,_,_,(drp (c':=hpC b w3::F)).trans (Imp.of_sub (l:=[]) (by simp [hpC])),hh⟩
  ·obtain⟨i,x,q1,q2,q3⟩:=key c;have li:=zaa q2;rw [q1];refine⟨⟨by omega,by omega⟩,(own t,k),rfl,λch' hr=> ?_⟩;rw [JE]at hr;have hr':Row 191 2 w.a (w.l.set i (own t,k)).length w.c encE (w.l.set i (own t,k)) ch':=by rw [JK];exact hr
   refine zaj (cs':=hpC b ⟨w.a,w.c,ch',w.bw,w.l.set i (own t,k),w.wh,hr',w.hl⟩::F) ?_ ?_
   ·simp only [hpC,JK];exact drp
   ·have m1:=hI.cns.again q2 hown;rw [q3]at m1;refine go ⟨tm.set k.toNat (own t),by simp;omega,m1,hI.ord.semi _,λw3 k1 k2 k3=> ?_⟩;have hh:=h w3 k1 k3 true;exact⟨_,_,_,Imp.of_sub (l:=[]) (by simp [hpC]),hh⟩⟩
instance c258 [o:Ob hpC cs b w put] {k:Int}:Go1 (fn 258 [.pointer (some (ad b 0)),.int .i64 k] K cs)
  (∃tm,(0≤k∧k<w.wh.length)∧HpI w tm∧∀(w':HpW),HpI w' (tm.set k.toNat never)→w'.wh.length=w.wh.length→∀r,K (.bool r) (put (hpC b w'))):=⟨λ⟨tm,⟨hk0,hk1⟩,hI,h⟩=>by
 have hkl:k.toNat<w.wh.length:=by omega
 refine o.fn1 (hpC b w) rfl λF=>f258 ?_;unfold s258;refine goj ?_;simp only [ge_iff_le,Jd,JL,QJ,ne_eq,QC,Jc,Jl,JD,JB];refine⟨λ_=>⟨λc=>absurd hk1 c,λ_=>⟨⟨hk0,hk1⟩,hkl,λc=>⟨_,drp,h w (by rw [zq5 hI hkl c];exact hI) rfl false⟩,λc=>⟨⟨hk0,hk1⟩,hkl,?_⟩⟩⟩,λc=>absurd hk0 c⟩;rcases hI.cns.c2 k.toNat hkl with q | ⟨i,x,q1,q2,q3⟩
 ·exact absurd q c
 ·rw [q1];refine go ⟨tm,x,q2,hI,λw2 h1 h2 h3=>⟨_,drp,h w2 (by rw [show k.toNat=x.2.toNat by omega];exact h1) h3 true⟩⟩⟩
def zeh (x:Int×Nat):Int×Int:=(x.1,(x.2:Int))
instance c159z [o:Ob hpC cs b w put]:Go1 (fn 159 [.pointer (some (ad b 0)),.int .i64 0] K cs)
  (∃tm e,w.l[0]? =some e∧HpI w tm∧∀(w':HpW),HpI w' (tm.set e.2.toNat never)→w'.l.length=w.l.length-1→w'.wh.length=w.wh.length→K undef (put (hpC b w'))):=c159 (i:=0)
structure DueS where
 w:HpW
 tm:List Int
 out:List (Int×Int)
 a:Option Addr
 c:Nat
 ch:Chunk
 y:Int×Int
 ok:Bool
 g:Nat
 k:Nat
def DueI (w:HpW) (tm:List Int) (now:Int) (x:DueS):Prop:=Row 191 2 x.a x.out.length x.c encE x.out x.ch∧HpI x.w x.tm∧x.w.wh.length=w.wh.length∧x.w.l.length≤x.k∧(x.w.l=[]→x.ok=false)∧(∀z,x.w.l[0]? =some z→x.y=z∧x.ok=true)∧
   x.out++(tmDue x.k x.tm now).1.map zeh=(tmDue w.wh.length tm now).1.map zeh∧(tmDue x.k x.tm now).2=(tmDue w.wh.length tm now).2∧x.out.length+x.w.l.length≤w.l.length
theorem zfd {k:Nat} {tm:List Int} {now:Int} (h:tmMin tm 0=none):tmDue k tm now=([],tm):=by cases k <;>simp [tmDue,h]
theorem zng {k:Nat} {tm:List Int} {now t:Int} {j:Nat} (h:tmMin tm 0=some (t,j)) (hd:tdue t now=false):tmDue k tm now=([],tm):=by cases k <;>simp [tmDue,h,hd]
instance c95 [o:Ob hpC cs b w put] {now:Int}:Go1 (fn 95 [.pointer (some (ad b 0)),.int .i64 now] K cs)
  (∃tm,HpI w tm∧∀(w':HpW) a c ch,HpI w' (tmDue w.wh.length tm now).2→w'.wh.length=w.wh.length→Row 191 2 a (tmDue w.wh.length tm now).1.length c encE ((tmDue w.wh.length tm now).1.map zeh) ch→K (.slice a (tmDue w.wh.length tm now).1.length c) (ch::put (hpC b w'))):=⟨λ⟨tm,hI,h⟩=>by
 refine o.fn1f (hpC b w) rfl λF=>f95 ?_;have hl:=w.hl;have hcl:=hI.cns.len;unfold s95;refine go ?_;have init:∀(y:Int×Int) (ok:Bool) (g:Nat),(w.l=[]→ok=false)→(∀z,w.l[0]? =some z→y=z∧ok=true)→DueI w tm now ⟨w,tm,[],none,0,[],y,ok,g,w.wh.length⟩:=λy ok g h1 h2=>⟨⟨Sl.nil⟩,hI,rfl,hcl,h1,h2,rfl,rfl,by simp⟩;refine⟨λhn g=> ?_,λy hy g=> ?_⟩
 ·have i0:=init (0,0) false g (λ_=>rfl) (λz hz=>by rw [hn]at hz;simp at hz);refine lp (λx:DueS=>[.slice x.a x.out.length x.c,.pointer (some (ad x.g 0)),.bool x.ok]) (λx=>bk x.g 191 [.int .i64 x.y.1,.int .i64 x.y.2]::x.ch::hpC b x.w::F) (DueI w tm now) (λx=>x.w.l.length) ⟨w,tm,[],none,0,[],(0,0),false,g,w.wh.length⟩ rfl drp i0 ?_;rintro⟨w1,tm1,out,a,c,ch,y1,ok,g1,k⟩ ⟨hr,hI1,e1,e2,e3,e4,e5,e6,e7⟩;dsimp only at *;have fin1:tmDue k tm1 now=([],tm1)→∃front q1,Imp (bk g1 191 [.int .i64 y1.1,.int .i64 y1.2]::ch::hpC b w1::F) (front++(q1::F))∧K (.slice a out.length c) (front++put q1):=λhe=>by
   rw [he]at e5 e6;simp only [Qb,Jj]at e5 e6;have hlen:out.length=(tmDue w.wh.length tm now).1.length:=by rw [e5,JR]
   have:=h w1 a c ch (by rw [←e6];exact hI1) e1 (by rw [←e5,←hlen];exact hr)
   rw [←hlen]at this;exact⟨[ch],hpC b w1,drp (c':=ch::hpC b w1::F),this⟩
  have hnil:ok=false→tmDue k tm1 now=([],tm1):=λhok=>zfd (hI1.none (by
   cases hl1:w1.l with
   | nil=>rfl
   | cons z r=>have:=e4 z (by rw [hl1];rfl);rw [hok]at this;cases this.2))
  refine goj ?_;dsimp only;refine⟨λc1=>⟨λc2=> ?_,λc2=>fin1 ?_⟩,λc1=>fin1 (hnil c1)⟩
  ·have hne:w1.l≠[]:=λhh=>by rw [e3 hh]at c1;cases c1
   obtain⟨z,r,hzr⟩:=List.exists_cons_of_ne_nil hne;have hz:w1.l[0]? =some z:=by rw [hzr];rfl
   obtain⟨rfl,_⟩:=e4 z hz;have hmin:=hI1.some hz;have hpos:0<w1.l.length:=by rw [hzr];simp
   have hk:k=(k-1)+1:=by omega
   have hstep:tmDue k tm1 now=((y1.1,y1.2.toNat)::(tmDue (k-1) (tm1.set y1.2.toNat never) now).1,(tmDue (k-1) (tm1.set y1.2.toNat never) now).2):=by
    rw [hk];simp only [tmDue,hmin,c2,if_true,Nat.add_sub_cancel]
   have cy:=hI1.cns.c1 0 y1 hz;have hfn:zeh (y1.1,y1.2.toNat)=y1:=by unfold zeh;ext <;>simp;omega
   rw [hstep]at e5 e6;simp only [Jf,hfn]at e5 e6;have hw1:=hI1.cns.len;have hw1l:=w1.hl;refine⟨tm1,y1,hz,hI1,λw2 k1 k2 k3=>⟨⟨by omega,by omega,by omega⟩,y1,rfl,λa2 c3 ch2 hr2 g2=>⟨λhn2=> ?_,λz2 hz2=> ?_⟩⟩⟩
   ·refine⟨⟨w2,tm1.set y1.2.toNat never,out++[y1],a2,c3,ch2,(0,0),false,g2,k-1⟩,by simp,drp,⟨by simp only [JH,JP];exact hr2,k1,by simp only;omega,by simp only;omega,λ_=>rfl,λz hz=>by simp only at hz;rw [hn2]at hz;simp at hz,by simp only;rw [←e5];simp,by simp only;exact e6,by simp only [JH,JP];omega⟩,by simp only;omega⟩
   ·refine⟨⟨w2,tm1.set y1.2.toNat never,out++[y1],a2,c3,ch2,z2,true,g2,k-1⟩,by simp,drp,⟨by simp only [JH,JP];exact hr2,k1,by simp only;omega,by simp only;omega,λhn=>by simp only at hn;rw [hn]at hz2;simp at hz2,λz hz=>by simp only at hz;rw [hz2]at hz;cases hz;exact⟨rfl,rfl⟩,by simp only;rw [←e5];simp,by simp only;exact e6,by simp only [JH,JP];omega⟩,by simp only;omega⟩
  ·cases hl1:w1.l with
   | nil=>exact zfd (hI1.none hl1)
   | cons z r=>
    have hz:w1.l[0]? =some z:=by rw [hl1];rfl
    obtain⟨rfl,_⟩:=e4 z hz;exact zng (hI1.some hz) c2
 ·have i0:=init y true g (λhn=>by rw [hn]at hy;simp at hy) (λz hz=>by rw [hy]at hz;cases hz;exact⟨rfl,rfl⟩);refine lp (λx:DueS=>[.slice x.a x.out.length x.c,.pointer (some (ad x.g 0)),.bool x.ok]) (λx=>bk x.g 191 [.int .i64 x.y.1,.int .i64 x.y.2]::x.ch::hpC b x.w::F) (DueI w tm now) (λx=>x.w.l.length) ⟨w,tm,[],none,0,[],y,true,g,w.wh.length⟩ rfl drp i0 ?_;rintro⟨w1,tm1,out,a,c,ch,y1,ok,g1,k⟩ ⟨hr,hI1,e1,e2,e3,e4,e5,e6,e7⟩;dsimp only at *;have fin1:tmDue k tm1 now=([],tm1)→∃front q1,Imp (bk g1 191 [.int .i64 y1.1,.int .i64 y1.2]::ch::hpC b w1::F) (front++(q1::F))∧K (.slice a out.length c) (front++put q1):=λhe=>by
   rw [he]at e5 e6;simp only [Qb,Jj]at e5 e6;have hlen:out.length=(tmDue w.wh.length tm now).1.length:=by rw [e5,JR]
   have:=h w1 a c ch (by rw [←e6];exact hI1) e1 (by rw [←e5,←hlen];exact hr)
   rw [←hlen]at this;exact⟨[ch],hpC b w1,drp (c':=ch::hpC b w1::F),this⟩
  have hnil:ok=false→tmDue k tm1 now=([],tm1):=λhok=>zfd (hI1.none (by
   cases hl1:w1.l with
   | nil=>rfl
   | cons z r=>have:=e4 z (by rw [hl1];rfl);rw [hok]at this;cases this.2))
  refine goj ?_;dsimp only;refine⟨λc1=>⟨λc2=> ?_,λc2=>fin1 ?_⟩,λc1=>fin1 (hnil c1)⟩
  ·have hne:w1.l≠[]:=λhh=>by rw [e3 hh]at c1;cases c1
   obtain⟨z,r,hzr⟩:=List.exists_cons_of_ne_nil hne;have hz:w1.l[0]? =some z:=by rw [hzr];rfl
   obtain⟨rfl,_⟩:=e4 z hz;have hmin:=hI1.some hz;have hpos:0<w1.l.length:=by rw [hzr];simp
   have hk:k=(k-1)+1:=by omega
   have hstep:tmDue k tm1 now=((y1.1,y1.2.toNat)::(tmDue (k-1) (tm1.set y1.2.toNat never) now).1,(tmDue (k-1) (tm1.set y1.2.toNat never) now).2):=by
    rw [hk];simp only [tmDue,hmin,c2,if_true,Nat.add_sub_cancel]
   have cy:=hI1.cns.c1 0 y1 hz;have hfn:zeh (y1.1,y1.2.toNat)=y1:=by unfold zeh;ext <;>simp;omega
   rw [hstep]at e5 e6;simp only [Jf,hfn]at e5 e6;have hw1:=hI1.cns.len;have hw1l:=w1.hl;refine⟨tm1,y1,hz,hI1,λw2 k1 k2 k3=>⟨⟨by omega,by omega,by omega⟩,y1,rfl,λa2 c3 ch2 hr2 g2=>⟨λhn2=> ?_,λz2 hz2=> ?_⟩⟩⟩
   ·refine⟨⟨w2,tm1.set y1.2.toNat never,out++[y1],a2,c3,ch2,(0,0),false,g2,k-1⟩,by simp,drp,⟨by simp only [JH,JP];exact hr2,k1,by simp only;omega,by simp only;omega,λ_=>rfl,λz hz=>by simp only at hz;rw [hn2]at hz;simp at hz,by simp only;rw [←e5];simp,by simp only;exact e6,by simp only [JH,JP];omega⟩,by simp only;omega⟩
   ·refine⟨⟨w2,tm1.set y1.2.toNat never,out++[y1],a2,c3,ch2,z2,true,g2,k-1⟩,by simp,drp,⟨by simp only [JH,JP];exact hr2,k1,by simp only;omega,by simp only;omega,λhn=>by simp only at hn;rw [hn]at hz2;simp at hz2,λz hz=>by simp only at hz;rw [hz2]at hz;cases hz;exact⟨rfl,rfl⟩,by simp only;rw [←e5];simp,by simp only;exact e6,by simp only [JH,JP];omega⟩,by simp only;omega⟩
  ·cases hl1:w1.l with
   | nil=>exact zfd (hI1.none hl1)
   | cons z r=>
    have hz:w1.l[0]? =some z:=by rw [hl1];rfl
    obtain⟨rfl,_⟩:=e4 z hz;exact zng (hI1.some hz) c2⟩
end
end Go.Proofs.YtbjlfobjngogkaaGreatDoor
namespace Go.Proofs.YtbjlfobjngogkaaGreatDoor
def zdl:Option Seat→Int
 | none=>-1
 | some x=>x.id
structure Eng.Ok (e:Eng):Prop where
 sg:good e.s=true
 l1:e.seats.length=e.s.live.toNat
 l3:e.turns.most=e.s.live.toNat
 l4:e.tm.length=e.s.live.toNat
 w:e.seats.map zdl=e.slots.who
 nd:∀i j x y,e.seat i=some x→e.seat j=some y→x.id=y.id→i=j
 nx:∀k x,e.seat k=some x→0≤x.id∧x.id<e.slots.next
 n0:0≤e.slots.next
 dO:∀k x,e.seat k=some x→x.d.Ok∧x.d.s=e.s∧x.d.now≤e.clock
 tq:∀k∈e.turns.q,∃x,e.seat k=some x
 tn:e.turns.q.Nodup
 tw:∀k:Nat,e.turns.who=k→k∉e.turns.q
 tm:∀k,e.tm.getD k never≠never→∃x,e.seat k=some x
 tv:∀t∈e.tm,t≤never
 c0:0≤e.clock
 c1:e.clock<never
 sc:∀p∈e.scripts,p.Fit
 sl:e.scripts.length≤64
theorem zao {e:Eng} {k:Nat} {x:Seat}:e.seat k=some x↔e.seats[k]? =some (some x):=by
 unfold Eng.seat;rw [JA];cases e.seats[k]? with
 | none=>simp
 | some o=>simp
theorem zpz {e:Eng} {k:Nat} {x:Seat} (h:e.seat k=some x):k<e.seats.length:=by
 have:=zao.1 h
 exact(QV.1 this).1
theorem Eng.Ok.lt {e:Eng} (h:e.Ok) {k:Nat} {x:Seat} (hk:e.seat k=some x):k<e.s.live.toNat:=by have:=zpz hk;rw [h.l1]at this;exact this
theorem Eng.Ok.l2 {e:Eng} (h:e.Ok):e.slots.who.length=e.s.live.toNat:=by rw [←h.w,JR,h.l1]
theorem Eng.Ok.who {e:Eng} (h:e.Ok) {k:Nat} {x:Seat} (hk:e.seat k=some x):e.slots.who[k]? =some x.id:=by
 rw [←h.w,JW,zao.1 hk];rfl
theorem zyj {l:List Int} {a:Int} {k:Nat} (h:l[k]? =some a) (hn:∀i,l[i]? =some a→i=k):l.idxOf a=k:=by
 have hm:a∈l:=JN h;have h1:l.idxOf a<l.length:=Jr.2 hm;refine hn _ ?_;rw [JC h1,List.getElem_idxOf]
theorem Eng.Ok.slot_of {e:Eng} (h:e.Ok) {k:Nat} {x:Seat} (hk:e.seat k=some x):e.slots.slot x.id=some k:=by
 have h0:=h.nx k x hk;have hw:=h.who hk;unfold Slots.slot;rw [if_pos ⟨h0.1,JN hw⟩];congr 1;refine zyj hw λi hi=> ?_;rw [←h.w,JW]at hi;cases hs:e.seats[i]? with
 | none=>rw [hs]at hi;simp at hi
 | some o=>cases o with
  | none=>rw [hs]at hi;simp [zdl]at hi;omega
  | some y=>
   rw [hs]at hi;simp [zdl]at hi;exact h.nd i k y x (zao.2 hs) hk hi
theorem Eng.Ok.of_slot {e:Eng} (h:e.Ok) {k:Nat} {id:Int} (hk:e.slots.slot id=some k):∃x,e.seat k=some x∧x.id=id:=by
 unfold Slots.slot at hk;split at hk
 ·rename_i hc;cases hk;have h1:e.slots.who.idxOf id<e.slots.who.length:=Jr.2 hc.2;have h2:e.slots.who[e.slots.who.idxOf id]? =some id:=by rw [JC h1,List.getElem_idxOf]
  generalize e.slots.who.idxOf id=k at *;rw [←h.w,JW]at h2;cases hs:e.seats[k]? with
  | none=>rw [hs]at h2;simp at h2
  | some o=>cases o with
   | none=>rw [hs]at h2;simp [zdl]at h2;omega
   | some y=>
    rw [hs]at h2;simp [zdl]at h2;exact⟨y,zao.2 hs,h2⟩
 ·cases hk
theorem zd6 {e:Eng} (h:e.Ok) (x:EvM):(e.tell x).Ok:={h with}
theorem zag {e:Eng} {k:Nat} {x:Seat} (hk:e.seat k=some x) (y:Seat) (i:Nat):(e.setSeat k (some y)).seat i=if i=k then some y else e.seat i:=by
 have hl:=zpz hk;unfold Eng.setSeat Eng.seat;rw [JA,JA,Jy];by_cases hi:k=i
 ·subst hi;simp [hl]
 ·rw [if_neg hi,if_neg (λe=>hi e.symm)]
theorem zaq {e:Eng} (h:e.Ok) {k:Nat} {x y:Seat} (hk:e.seat k=some x) (hid:y.id=x.id) (hd:y.d.Ok∧y.d.s=e.s∧y.d.now≤e.clock):(e.setSeat k (some y)).Ok:=by
 have hs:=zag hk y;have ex:∀i,(∃z,e.seat i=some z)→∃z,(e.setSeat k (some y)).seat i=some z:=by
  intro i ⟨z,hz⟩;rw [hs];split
  ·exact⟨y,rfl⟩
  ·exact⟨z,hz⟩
 refine{h with l1:= ?_,w:= ?_,nd:= ?_,nx:= ?_,dO:= ?_,tq:= ?_,tm:= ?_}
 ·unfold Eng.setSeat;simp only [JK];exact h.l1
 ·unfold Eng.setSeat;simp only [List.map_set];rw [h.w];have hw:=h.who hk;apply List.ext_getElem?;intro i;rw [Jy];split
  ·rename_i hi;subst hi;rw [hw]
   have:=(QV.1 hw).1
   simp [this,zdl,hid]
  ·rfl
 ·intro i j a b ha hb hab;rw [hs]at ha hb;split at ha <;>split at hb
  ·omega
  ·rename_i h1 h2;cases ha;rw [hid]at hab;rw [h1];exact h.nd _ _ _ _ hk hb hab
  ·rename_i h1 h2;cases hb;rw [hid]at hab;rw [h2];exact h.nd _ _ _ _ ha hk hab
  ·exact h.nd _ _ _ _ ha hb hab
 ·intro i a ha;rw [hs]at ha;split at ha
  ·cases ha;rw [hid];exact h.nx _ _ hk
  ·exact h.nx _ _ ha
 ·intro i a ha;rw [hs]at ha;split at ha
  ·cases ha;exact hd
  ·exact h.dO _ _ ha
 ·intro i hi;exact ex i (h.tq i hi)
 ·intro i hi;exact ex i (h.tm i hi)
theorem zgx {q:List Nat} {i j:Nat}:j∈qpush q i↔j∈q∨j=i:=by
 unfold qpush;split
 ·constructor
  ·exact .inl
  ·rintro(h | rfl) <;>assumption
 ·simp
theorem zjy {q:List Nat} {i:Nat} (h:q.Nodup):(qpush q i).Nodup:=by
 unfold qpush;split
 ·exact h
 ·rename_i hi;rw [List.nodup_append];exact⟨h,by simp,λa ha b hb e=>by simp at hb;subst hb;subst e;exact hi ha⟩
theorem zrg {l:List Int} {k:Nat} {v:Int} (h:∀t∈l,t≤never) (hv:v≤never):∀t∈l.set k v,t≤never:=by
 intro t ht;rcases List.mem_or_eq_of_mem_set ht with ht | rfl
 ·exact h t ht
 ·exact hv
theorem zqa (d:Dia):d.next≤never:=by
 unfold Dia.next;split
 ·exact znj _
 ·exact Int.le_refl _
theorem zgn {l:List Int} {k:Nat} (d:Dia) (h:∀t∈l,t≤never):∀t∈tmSet l k d.next,t≤never:=by
 unfold tmSet;refine zrg h ?_;split
 ·exact Int.le_refl _
 ·exact zlk (zqa d)
theorem zc0 {e:Eng} (h:e.Ok) {k:Nat}:(e.settle k).Ok:=by
 unfold Eng.settle;cases hk:e.seat k with
 | none=>exact h
 | some x=>
  dsimp only;have hlt:=h.lt hk;have htm:∀i,(tmSet e.tm k x.d.next).getD i never≠never→∃z,e.seat i=some z:=by
   intro i hi;by_cases hik:i=k
   ·subst hik;exact⟨x,hk⟩
   ·refine h.tm i ?_;unfold tmSet at hi;rw [JA,JS (Ne.symm hik),←JA]at hi;exact hi
  split
  ·unfold Turns.wake;split
   ·refine{h with l4:= ?_,tm:=htm,tv:=zgn x.d h.tv};unfold tmSet;simp only [JK];exact h.l4
   ·rename_i hw;refine{h with l4:= ?_,tm:=htm,tv:=zgn x.d h.tv,tq:= ?_,tn:=zjy h.tn,tw:= ?_}
    ·unfold tmSet;simp only [JK];exact h.l4
    ·intro i hi;rcases zgx.1 hi with hi | rfl
     ·exact h.tq i hi
     ·exact⟨x,hk⟩
    ·intro i hi hm;rcases zgx.1 hm with hm | rfl
     ·exact h.tw i hi hm
     ·exact hw hi
  ·refine{h with l4:= ?_,tm:=htm,tv:=zgn x.d h.tv};unfold tmSet;simp only [JK];exact h.l4
theorem za0 (e:Eng) (k i:Nat):(e.settle k).seat i=e.seat i:=by
 unfold Eng.settle;cases hk:e.seat k with
 | none=>rfl
 | some x=>rfl
theorem zbc (e:Eng) (k:Nat):(e.settle k).out=e.out:=by
 unfold Eng.settle;cases hk:e.seat k <;>rfl
theorem zo9 {q:List Nat} (h:q.Nodup) {i k:Nat}:i∈q.erase k↔i≠k∧i∈q:=h.mem_erase_iff
theorem z1y {t:Turns} (k:Nat) (hn:t.q.Nodup) (hw:∀k:Nat,t.who=k→k∉t.q):(t.leave k).most=t.most∧(t.leave k).q.Nodup∧(∀i,i∈(t.leave k).q→i∈t.q∧i≠k)∧∀i:Nat,(t.leave k).who=i→i∉(t.leave k).q:=by
 unfold Turns.leave;split
 ·rename_i hk;unfold Turns.fin;split
  ·rename_i h1;omega
  ·simp only [QA,if_false];refine⟨trivial,hn,λi hi=>⟨hi,λe=>hw k hk (e▸hi)⟩,λi hi=>by omega⟩
 ·rename_i hk;split
  ·rename_i hm;refine⟨rfl,hn.erase k,λi hi=> ?_,λi hi hm2=> ?_⟩
   ·have:=(zo9 hn).1 hi;exact⟨this.2,this.1⟩
   ·exact hw i hi ((zo9 hn).1 hm2).2
  ·rename_i hm;exact⟨rfl,hn,λi hi=>⟨hi,λe=>hm (e▸hi)⟩,hw⟩
theorem zbp {e:Eng} {k:Nat} {id:Int} (i:Nat):(e.gone k id).seat i=if i=k then none else e.seat i:=by
 unfold Eng.gone Eng.seat;simp only;rw [JA,JA,Jy];by_cases hi:k=i
 ·subst hi;rw [if_pos rfl,if_pos rfl];split <;>simp
 ·rw [if_neg hi,if_neg (λe=>hi e.symm)]
theorem zqf {e:Eng} (h:e.Ok) {k:Nat} {x:Seat} (hk:e.seat k=some x):(e.gone k x.id).Ok:=by
 have hs:=λi=>zbp (e:=e) (k:=k) (id:=x.id) i;obtain⟨q1,q2,q3,q4⟩:=z1y k h.tn h.tw;have hsl:=h.slot_of hk;have ex:∀i,i≠k→(∃z,e.seat i=some z)→∃z,(e.gone k x.id).seat i=some z:=by
  intro i hik ⟨z,hz⟩;rw [hs,if_neg hik];exact⟨z,hz⟩
 refine{h with l1:= ?_,l3:= ?_,l4:= ?_,w:= ?_,nd:= ?_,nx:= ?_,n0:= ?_,dO:= ?_,tq:= ?_,tn:=q2,tw:=q4,tm:= ?_,tv:=zrg h.tv (Int.le_refl _)}
 ·unfold Eng.gone;simp only [JK];exact h.l1
 ·exact q1.trans h.l3
 ·unfold Eng.gone;simp only [JK];exact h.l4
 ·unfold Eng.gone Slots.close;rw [hsl];simp only [List.map_set,h.w];rfl
 ·intro i j a b ha hb hab;rw [hs]at ha hb;split at ha
  ·cases ha
  ·split at hb
   ·cases hb
   ·exact h.nd _ _ _ _ ha hb hab
 ·intro i a ha;rw [hs]at ha;split at ha
  ·cases ha
  ·have:=h.nx _ _ ha
   unfold Eng.gone Slots.close;rw [hsl];exact this
 ·unfold Eng.gone Slots.close;rw [hsl];exact h.n0
 ·intro i a ha;rw [hs]at ha;split at ha
  ·cases ha
  ·exact h.dO _ _ ha
 ·intro i hi
  have:=q3 i hi
  exact ex i this.2 (h.tq i this.1)
 ·intro i hi;by_cases hik:i=k
  ·subst hik;exfalso;apply hi;unfold Eng.gone;simp only;rw [JA,Jy];rw [if_pos rfl];split <;>rfl
  ·refine ex i hik (h.tm i ?_);unfold Eng.gone at hi;simp only at hi;rw [JA,JS (Ne.symm hik),←JA]at hi;exact hi
structure Dia.Like (d d':Dia):Prop where
 s:d'.s=d.s
 p:d'.p=d.p
 now:d'.now=d.now
 eof:d'.eof=d.eof
theorem Dia.Like.refl (d:Dia):d.Like d:=⟨rfl,rfl,rfl,rfl⟩
theorem zhf (d:Dia) (to:Int):d.Like (d.come to):=by
 unfold Dia.come;repeat' split
 all_goals exact⟨rfl,rfl,rfl,rfl⟩
theorem zqs (d:Dia) (to:Int):(d.come to).status=d.status:=by
 unfold Dia.come;repeat' split
 all_goals rfl
theorem zeu (d:Dia) (st:Int):d.Like (d.stop st):=⟨rfl,rfl,rfl,rfl⟩
theorem zha (d:Dia) (x:StepM) (to:Int):d.Like (d.jump x to).2:=by
 unfold Dia.jump;split
 ·exact zeu _ _
 ·split
  ·exact zeu _ _
  ·have:=zhf {d with jumps:=d.jumps+1} to
   exact⟨this.s,this.p,this.now,this.eof⟩
theorem zg7 {d:Dia} {w:Win} {q:List UInt8} {d':Dia} (h:Dia.Like {d with win:=w,inq:=q} d'):d.Like d':=⟨h.s,h.p,h.now,h.eof⟩
theorem zvq (d:Dia) (x:StepM) (o:OpM):d.Like (d.look x o).2:=by
 unfold Dia.look;cases d.win.m with
 | none=>exact Dia.Like.refl d
 | some m=>
  dsimp only;split
  ·exact zg7 (zha _ _ _)
  ·split
   ·exact zg7 (zeu _ _)
   ·split
    ·exact zg7 (zha _ _ _)
    ·split
     ·exact zg7 (zha _ _ _)
     ·exact⟨rfl,rfl,rfl,rfl⟩
theorem zwk (d:Dia) (x:StepM):d.Like (d.does x).2:=by
 unfold Dia.does;split
 ·exact zeu _ _
 ·split
  ·unfold Dia.send;split
   ·exact⟨rfl,rfl,rfl,rfl⟩
   ·exact zhf _ _
  ·split
   ·exact zvq _ _ _
   ·split
    ·exact zha _ _ _
    ·split
     ·exact zhf _ _
     ·split <;>exact zeu _ _
theorem zch {d d':Dia} {now:Int} {y:StepM} (h:d.step now=some (y,d')):d'.s=d.s∧d'.p=d.p∧d'.now=max d.now now∧d'.eof=d.eof∧d'=(d.did now).2∧d.ready now=true:=by
 unfold Dia.step at h;split at h
 ·rename_i hr;cases h
  have:=zwk (d.tick now) ⟨(d.tick now).now,d.at_,0,0,0,0⟩
  exact⟨this.s,this.p,this.now,this.eof,rfl,hr⟩
 ·cases h
theorem zfg {d:Dia} {now:Int} (h:d.ready now=true):d.status=0:=by
 unfold Dia.ready Dia.runs at h;simp at h;exact h.1
theorem zra {d d':Dia} {now:Int} {y:StepM} (hd:d.Ok) (hn:now≤never) (h:d.step now=some (y,d')):d'.Ok:=by
 obtain⟨_,_,_,_,h5,h6⟩:=zch h;rw [h5];exact z3t hd (zfg h6) hn
theorem zcs (d:Dia) (b:List UInt8):(d.put b).s=d.s∧(d.put b).status=d.status∧(d.put b).now=d.now:=by unfold Dia.put;split <;>exact⟨rfl,rfl,rfl⟩
theorem zcl (d:Dia):d.ends.s=d.s∧d.ends.status=d.status∧d.ends.now=d.now:=by unfold Dia.ends;split <;>exact⟨rfl,rfl,rfl⟩
theorem zcf (d:Dia) (n:Int):(d.take n).s=d.s∧(d.take n).status=d.status∧(d.take n).now=d.now:=by unfold Dia.take;split <;>exact⟨rfl,rfl,rfl⟩
theorem zbv (d:Dia) (t:Int):(d.cut t).s=d.s∧(d.cut t).status=d.status∧(d.cut t).now=d.now:=by unfold Dia.cut;split <;>exact⟨rfl,rfl,rfl⟩
theorem ziw (s:Setup) (p:PrM) (now:Int):(Dia.new s p now).s=s∧(Dia.new s p now).p=p∧(Dia.new s p now).status=0∧(Dia.new s p now).now=own now∧(Dia.new s p now).eof=false:=by
 unfold Dia.new
 have:=zhf ⟨s,p,0,0,0,Due.begin (own now) p.dl,[],⟨[],0,none⟩,Wtr.new s.out,false,own now⟩ 0
 exact⟨this.s,this.p,zqs _ _,this.now,this.eof⟩
theorem zbi {e:Eng} (h:e.Ok) (k:Nat):(e.step k).2.Ok:=by
 unfold Eng.step;cases hk:e.seat k with
 | none=>exact h
 | some x=>
  dsimp only;obtain⟨d1,d2,d4⟩:=h.dO k x hk;cases hst:x.d.step e.clock with
  | none=>
   dsimp only;split
   ·exact h
   ·exact zqf h hk
  | some y=>
   obtain⟨y,d'⟩:=y;dsimp only;obtain⟨s1,s2,s3,s4,s5,s6⟩:=zch hst;have hok:=zra d1 (by have:=h.c1;omega) hst;split
   ·rename_i h0;exact zd6 (zaq (y:={x with d:=d'}) h hk rfl ⟨hok,s1.trans d2,by simp only;rw [s3];omega⟩) _
   ·have hgo:=zqf h hk;have hs:=zag hk {x with d:=d'};refine{hgo with l1:= ?_,w:= ?_,nd:= ?_,nx:= ?_,dO:= ?_,tq:= ?_,tm:= ?_}
    all_goals simp only [Eng.tell,Eng.setSeat,Eng.gone,Eng.seat,List.set_set]at *
    ·exact hgo.l1
    ·exact hgo.w
    ·exact hgo.nd
    ·exact hgo.nx
    ·exact hgo.dO
    ·exact hgo.tq
    ·exact hgo.tm
theorem zev {e:Eng} (h:e.Ok) {k:Nat} {x:Seat} (hk:e.seat k=some x):((e.step k).1=true→∃y,(e.step k).2.seat k=some y∧y.id=x.id)∧∀i,i≠k→(e.step k).2.seat i=e.seat i:=by
 unfold Eng.step;rw [hk];dsimp only;obtain⟨d1,d2,d4⟩:=h.dO k x hk;cases hst:x.d.step e.clock with
 | none=>
  dsimp only;split
  ·exact⟨λ_=>⟨x,hk,rfl⟩,λ_ _=>rfl⟩
  ·refine⟨λhc=>(by cases hc),λi hi=> ?_⟩;rw [zbp,if_neg hi]
 | some y=>
  dsimp only;split
  ·have hs:=zag hk {x with d:=y.2};refine⟨λ_=>⟨{x with d:=y.2},?_,rfl⟩,λi hi=> ?_⟩
   ·exact(hs k).trans (if_pos rfl)
   ·exact(hs i).trans (if_neg hi)
  ·refine⟨λhc=>(by cases hc),λi hi=> ?_⟩;have hs:=zag hk {x with d:=y.2} i;rw [if_neg hi]at hs;rw [zbp,if_neg hi];exact hs
theorem zcw {s:Slots} (h:s.free≠0):s.first<s.who.length∧s.who[s.first]? =some (-1):=by
 have hm:(-1:Int)∈s.who:=by
  unfold Slots.free at h;exact List.count_pos_iff.1 (by omega)
 have h1:s.who.idxOf (-1)<s.who.length:=Jr.2 hm;refine⟨h1,?_⟩;unfold Slots.first
 rw [JC h1,List.getElem_idxOf]
theorem zb6 {e:Eng} {n:Int} (h:e.refused n=0):(0≤n∧n<e.scripts.length)∧goodP (e.scripts.getD n.toNat PrM.zero)=true∧e.drains=false∧e.slots.next<4096∧e.slots.free≠0:=by
 unfold Eng.refused at h;split at h
 ·cases h
 ·split at h
  ·cases h
  ·split at h
   ·cases h
   ·split at h
    ·cases h
    ·split at h
     ·cases h
     ·rename_i h1 h2 h3 h4 h5;exact⟨by omega,by simpa using h2,by simpa using h3,by omega,h5⟩
theorem zsv {e:Eng} {n:Int} (h:0≤n∧n<e.scripts.length):e.scripts.getD n.toNat PrM.zero∈e.scripts:=by
 have:n.toNat<e.scripts.length:=by omega
 rw [JA,JC this];exact Jq this
theorem zg2 {e:Eng} (h:e.Ok) {n:Int} (hr:e.refused n=0):
  Eng.Ok {e with slots:=e.slots.open,seats:=e.seats.set e.slots.first (some ⟨e.slots.next,Dia.new e.s (e.scripts.getD n.toNat PrM.zero) e.clock,[],false⟩),out:=e.out++[za5 e.slots.next n]}:=by
 obtain⟨r1,r2,r3,r4,r5⟩:=zb6 hr;obtain⟨f1,f2⟩:=zcw r5;rw [h.l2]at f1;have hsn:e.seat e.slots.first=none:=by
  cases hs:e.seat e.slots.first with
  | none=>rfl
  | some x=>
   have:=h.who hs
   rw [f2]at this;have h2:=(h.nx _ _ hs).1;have h3:=JQ this;omega
 have hn:=ziw e.s (e.scripts.getD n.toNat PrM.zero) e.clock;have hs:∀i,(({e with slots:=e.slots.open,seats:=e.seats.set e.slots.first (some ⟨e.slots.next,Dia.new e.s (e.scripts.getD n.toNat PrM.zero) e.clock,[],false⟩),out:=e.out++[za5 e.slots.next n]}:Eng).seat i)=if i=e.slots.first then some ⟨e.slots.next,Dia.new e.s (e.scripts.getD n.toNat PrM.zero) e.clock,[],false⟩else e.seat i:=by
  intro i;unfold Eng.seat;simp only;rw [JA,JA,Jy];by_cases hi:e.slots.first=i
  ·subst hi;rw [if_pos rfl,if_pos rfl,if_pos (by rw [h.l1];exact f1)];rfl
  ·rw [if_neg hi,if_neg (λe=>hi e.symm),JA]
 have ex:∀i,(∃z,e.seat i=some z)→∃z,(({e with slots:=e.slots.open,seats:=e.seats.set e.slots.first (some ⟨e.slots.next,Dia.new e.s (e.scripts.getD n.toNat PrM.zero) e.clock,[],false⟩),out:=e.out++[za5 e.slots.next n]}:Eng).seat i)=some z:=by
  intro i ⟨z,hz⟩;rw [hs];split
  ·exact⟨_,rfl⟩
  ·exact⟨z,hz⟩
 refine{h with l1:= ?_,w:= ?_,nd:= ?_,nx:= ?_,n0:= ?_,dO:= ?_,tq:= ?_,tm:= ?_}
 ·simp only [JK];exact h.l1
 ·simp only [Slots.open,List.map_set,h.w];rfl
 ·intro i j a b ha hb hab;rw [hs]at ha hb;split at ha <;>split at hb
  ·omega
  ·cases ha;have:=(h.nx _ _ hb).2;simp only at hab;omega
  ·cases hb;have:=(h.nx _ _ ha).2;simp only at hab;omega
  ·exact h.nd _ _ _ _ ha hb hab
 ·intro i a ha;have hn0:=h.n0;rw [hs]at ha;simp only [Slots.open];split at ha
  ·cases ha;simp only;omega
  ·have:=h.nx _ _ ha;omega
 ·have hn0:=h.n0;simp only [Slots.open];omega
 ·intro i a ha;rw [hs]at ha;have hc0:=h.c0;have hc1:=h.c1;split at ha
  ·cases ha;refine⟨z3e h.sg r2 (h.sc _ (zsv r1)) (by omega),hn.1,?_⟩;simp only;rw [hn.2.2.2.1];unfold own;omega
  ·exact h.dO _ _ ha
 ·intro i hi;exact ex i (h.tq i hi)
 ·intro i hi;exact ex i (h.tm i hi)
theorem zt4 {e:Eng} (h:e.Ok) (x:EvM):Eng.Ok {e with slots:=e.slots.skip,out:=e.out++[x]}:=by
 have hn0:=h.n0;refine{h with w:= ?_,nx:= ?_,n0:= ?_}
 ·unfold Slots.skip;split <;>exact h.w
 ·intro i a ha
  have:=h.nx i a ha
  unfold Slots.skip;split
  ·exact this
  ·simp only;omega
 ·unfold Slots.skip;split
  ·exact hn0
  ·simp only;omega
theorem zhx {e:Eng} (h:e.Ok) (n:Int):(e.open n).Ok:=by
 unfold Eng.open;split
 ·exact zt4 h _
 ·rename_i hr;exact zc0 (zg2 h (Decidable.not_not.1 hr))
theorem zfm {e:Eng} (h:e.Ok) (o:OfferM):(e.offer o).Ok:=by
 unfold Eng.offer;cases hs:e.slots.slot o.id with
 | none=>exact h
 | some k=>
  dsimp only;obtain⟨x,hk,_⟩:=h.of_slot hs;rw [hk];dsimp only;split
  ·exact h
  ·exact zaq (y:={x with q:=x.q++o.bytes.data.toList,eof:=o.eof}) h hk rfl (h.dO k x hk)
theorem zm7 {e:Eng} (h:e.Ok) (t:Int) (now:Bool) (id:Int):(e.cut1 t now id).Ok:=by
 unfold Eng.cut1;cases hs:e.slots.slot id with
 | none=>exact h
 | some k=>
  dsimp only;obtain⟨x,hk,_⟩:=h.of_slot hs;rw [hk];dsimp only;obtain⟨d1,d2,d4⟩:=h.dO _ _ hk;have hc:=zbv x.d t;have h1:(e.setSeat k (some {x with d:=x.d.cut t})).Ok:=zaq (y:={x with d:=x.d.cut t}) h hk rfl ⟨zly d1 t,hc.1.trans d2,by simp only;rw [hc.2.2];exact d4⟩;split
  ·exact zc0 h1
  ·split
   ·exact zc0 (zbi h1 k)
   ·exact zbi h1 k
theorem zc9 {α:Type} {f:Eng→α→Eng} (hf:∀e a,e.Ok→(f e a).Ok):∀(l:List α) (e:Eng),e.Ok→(l.foldl f e).Ok
 | [],_,h=>h
 | a::l,e,h=>zc9 hf l _ (hf e a h)
theorem zlz {e:Eng} (h:e.Ok) (t:Int) (now:Bool):(e.cut t now).Ok:=zc9 (λe a h=>zm7 h t now a) _ _ {h with}
theorem zi0 {e:Eng} (h:e.Ok) (r:RoundM):(e.drain r).Ok:=by
 unfold Eng.drain;split
 ·exact zlz h _ _
 ·split
  ·exact zlz h _ _
  ·exact h
theorem zmj {e:Eng} (h:e.Ok) (k:Nat):(e.read k).Ok∧∀x,e.seat k=some x→∃y,(e.read k).seat k=some y∧y.id=x.id:=by
 unfold Eng.read;cases hk:e.seat k with
 | none=>exact⟨h,λx hx=>by cases hx⟩
 | some x=>
  dsimp only;obtain⟨d1,d2,d4⟩:=h.dO _ _ hk;have hp:=zcs x.d (x.q.take x.d.room);by_cases h0:x.d.room=0
  ·rw [if_pos h0];exact⟨h,λz hz=>⟨z,by rw [hk];exact hz,rfl⟩⟩
  ·rw [if_neg h0];have h1:(e.setSeat k (some x.read1)).Ok:=zaq h hk rfl ⟨zob d1 _,hp.1.trans d2,by show(x.d.put _).now≤_;rw [hp.2.2];exact d4⟩;have hk1:(e.setSeat k (some x.read1)).seat k=some x.read1:=(zag hk _ k).trans (if_pos rfl);have fin:∀(e1:Eng) (x1:Seat),e1.Ok→e1.seat k=some x1→x1.id=x.id→(if(x1.over&&(x1.d.runs&& !x1.d.eof))=true then(e1.setSeat k (some {x1 with d:=x1.d.ends})).tell (evEof x.id)else e1).Ok∧∀z,some x=some z→∃y,(if(x1.over&&(x1.d.runs&& !x1.d.eof))=true then(e1.setSeat k (some {x1 with d:=x1.d.ends})).tell (evEof x.id)else e1).seat k=some y∧y.id=z.id:=by
    intro e1 x1 g1 g2 g3;obtain⟨q1,q2,q4⟩:=g1.dO _ _ g2;have he:=zcl x1.d;split
    ·refine⟨zd6 (zaq (y:={x1 with d:=x1.d.ends}) g1 g2 rfl ⟨zqm q1,he.1.trans q2,by simp only;rw [he.2.2];exact q4⟩) _,λz hz=>⟨{x1 with d:=x1.d.ends},?_,?_⟩⟩
     ·exact(zag g2 _ k).trans (if_pos rfl)
     ·cases hz;exact g3
    ·exact⟨g1,λz hz=>⟨x1,g2,by cases hz;exact g3⟩⟩
   by_cases hr:x.reads=[]
   ·simp only [if_pos hr];exact fin e x h hk rfl
   ·simp only [if_neg hr];exact fin _ x.read1 (zd6 h1 _) hk1 rfl
theorem zq0 {e:Eng} (h:e.Ok) (k:Nat) (n:Int):(e.write k n).Ok∧∀x,e.seat k=some x→∃y,(e.write k n).seat k=some y∧y.id=x.id:=by
 unfold Eng.write;cases hk:e.seat k with
 | none=>exact⟨h,λx hx=>by cases hx⟩
 | some x=>
  dsimp only;obtain⟨d1,d2,d4⟩:=h.dO _ _ hk;have hp:=zcf x.d n;have h1:(e.setSeat k (some {x with d:=x.d.take n})).Ok:=zaq (y:={x with d:=x.d.take n}) h hk rfl ⟨zpq d1 _,hp.1.trans d2,by simp only;rw [hp.2.2];exact d4⟩;have hk1:(e.setSeat k (some {x with d:=x.d.take n})).seat k=some {x with d:=x.d.take n}:=(zag hk _ k).trans (if_pos rfl);split
  ·exact⟨h1,λz hz=>⟨_,hk1,by cases hz;rfl⟩⟩
  ·exact⟨zd6 h1 _,λz hz=>⟨_,hk1,by cases hz;rfl⟩⟩
theorem zju {e:Eng} (h:e.Ok) (r:ReportM) (k:Nat):(e.reported r k).Ok∧∀x,e.seat k=some x→∃y,(e.reported r k).seat k=some y∧y.id=x.id:=by
 unfold Eng.reported;have h1:(if r.read then e.read k else e).Ok∧∀x,e.seat k=some x→∃y,(if r.read then e.read k else e).seat k=some y∧y.id=x.id:=by
  split
  ·exact zmj h k
  ·exact⟨h,λx hx=>⟨x,hx,rfl⟩⟩
 dsimp only;split
 ·refine⟨(zq0 h1.1 k _).1,λx hx=> ?_⟩;obtain⟨y,hy,e1⟩:=h1.2 x hx;obtain⟨z,hz,e2⟩:=(zq0 h1.1 k r.accept).2 y hy;exact⟨z,hz,e2.trans e1⟩
 ·exact h1
theorem zgt {e:Eng} (h:e.Ok) (r:ReportM):(e.report r).Ok:=by
 unfold Eng.report;cases hs:e.slots.slot r.id with
 | none=>exact h
 | some k=>
  dsimp only;split
  ·exact zc0 (zju h r k).1
  ·exact(zju h r k).1
theorem zlg {e:Eng} (h:e.Ok) (p:Int):Eng.Ok {e with turns:=(e.turns.pay p).1}:=by
 unfold Turns.pay;split
 ·exact h
 ·split
  ·exact h
  ·exact{h with}
theorem zmc:∀(f:Nat) {e:Eng} (_:e.Ok) (k:Nat) {x:Seat} (_:e.seat k=some x),(Eng.spend f e k).2.Ok∧((Eng.spend f e k).1=true→∃y,(Eng.spend f e k).2.seat k=some y)
 | 0,e,h,k,x,hk=>⟨h,λ_=>⟨x,hk⟩⟩
 | f+1,e,h,k,x,hk=>by
  rw [Eng.spend,hk];dsimp only;split
  ·split
   ·have h1:=zlg h x.d.price;have h2:=zbi h1 k;have h3:=(zev h1 (k:=k) (x:=x) hk).1;split
    ·rename_i hl;obtain⟨y,hy,_⟩:=h3 hl;exact zmc f h2 k hy
    ·exact⟨h2,λhc=>(by cases hc)⟩
   ·exact⟨h,λ_=>⟨x,hk⟩⟩
  ·exact⟨h,λ_=>⟨x,hk⟩⟩
theorem zgi {t:Turns} {k:Nat} (h:t.begin.2=some k) (hn:t.q.Nodup):k∈t.q∧t.begin.1.most=t.most∧t.begin.1.q.Nodup∧(∀i,i∈t.begin.1.q→i∈t.q)∧t.begin.1.who=k∧∀i:Nat,t.begin.1.who=i→i∉t.begin.1.q:=by
 unfold Turns.begin at h ⊢;split at h
 ·cases h
 ·rename_i hw;rw [if_neg hw];cases hq:t.q with
  | nil=>rw [hq]at h;cases h
  | cons i r=>
   rw [hq]at h hn;cases h;simp only [List.nodup_cons]at hn;refine⟨by simp,rfl,hn.2,λj hj=>by simp at hj ⊢;exact .inr hj,rfl,λj hj=> ?_⟩;simp only at hj ⊢
   have:j=k:=by omega
   rw [this];exact hn.1
theorem zhh {e:Eng} (h:e.Ok) {k:Nat} (hb:e.turns.begin.2=some k):Eng.Ok {e with turns:=e.turns.begin.1}∧∃x,e.seat k=some x:=by
 obtain⟨b1,b2,b3,b4,b5,b6⟩:=zgi hb h.tn;refine⟨{h with l3:= ?_,tq:= ?_,tn:=b3,tw:=b6},h.tq k b1⟩
 ·exact b2.trans h.l3
 ·intro i hi;exact h.tq i (b4 i hi)
theorem zul {e:Eng} (h:e.Ok) (k:Nat) (hw:e.turns.who=k):(e.rest k).Ok:=by
 unfold Eng.rest;cases hk:e.seat k with
 | none=>exact h
 | some x=>
  dsimp only;have htm:∀i,(tmSet e.tm k x.d.next).getD i never≠never→∃z,e.seat i=some z:=by
   intro i hi;by_cases hik:i=k
   ·subst hik;exact⟨x,hk⟩
   ·refine h.tm i ?_;unfold tmSet at hi;rw [JA,JS (Ne.symm hik),←JA]at hi;exact hi
  unfold Turns.fin;rw [if_neg (by omega)];have hkk:e.turns.who.toNat=k:=by omega
  split
  ·refine{h with l4:= ?_,tm:=htm,tv:=zgn x.d h.tv,tq:= ?_,tn:=zjy h.tn,tw:= ?_}
   ·unfold tmSet;simp only [JK];exact h.l4
   ·intro i hi;rcases zgx.1 hi with hi | hi
    ·exact h.tq i hi
    ·rw [hkk]at hi;subst hi;exact⟨x,hk⟩
   ·intro i hi;simp only at hi;omega
  ·refine{h with l4:= ?_,tm:=htm,tv:=zgn x.d h.tv,tw:= ?_}
   ·unfold tmSet;simp only [JK];exact h.l4
   ·intro i hi;simp only at hi;omega
theorem zp3 (t:Turns) (p:Int):(t.pay p).1.who=t.who∧(t.pay p).1.q=t.q∧(t.pay p).1.most=t.most:=by
 unfold Turns.pay;split
 ·exact⟨rfl,rfl,rfl⟩
 ·split <;>exact⟨rfl,rfl,rfl⟩
theorem zhp {e:Eng} {k:Nat} (h:(e.step k).1=true):(e.step k).2.turns=e.turns:=by
 unfold Eng.step at h ⊢;cases hk:e.seat k with
 | none=>rfl
 | some x=>
  rw [hk]at h;dsimp only at h ⊢;cases hst:x.d.step e.clock with
  | none=>
   rw [hst]at h;dsimp only at h ⊢;split
   ·rfl
   ·rename_i h1;rw [if_neg h1]at h;cases h
  | some y=>
   rw [hst]at h;dsimp only at h ⊢;split
   ·rfl
   ·rename_i h1;rw [if_neg h1]at h;cases h
theorem zjl:∀(f:Nat) (e:Eng) (k:Nat),(Eng.spend f e k).1=true→(Eng.spend f e k).2.turns.who=e.turns.who
 | 0,e,k,_=>rfl
 | f+1,e,k,h=>by
  rw [Eng.spend]at h ⊢;cases hk:e.seat k with
  | none=>rfl
  | some x=>
   rw [hk]at h;dsimp only at h ⊢;split
   ·rename_i h1;rw [if_pos h1]at h;split
    ·rename_i h2;rw [if_pos h2]at h;split
     ·rename_i h3;rw [if_pos h3]at h;rw [zjl f _ k h,zhp h3];exact(zp3 _ _).1
     ·rename_i h3;rw [if_neg h3]at h;cases h
    ·rfl
   ·rfl
theorem zl4 {e:Eng} (h:e.Ok):e.turn.2.Ok:=by
 unfold Eng.turn;cases hb:e.turns.begin.2 with
 | none=>exact h
 | some k=>
  dsimp only;obtain⟨h1,x,hk⟩:=zhh h hb;have hs:=zmc ((e.turns.begin.1.has.getD k 0).toNat+1) h1 k (x:=x) hk;split
  ·rename_i hy;refine zul hs.1 k ?_;rw [zjl _ _ _ hy];exact(zgi hb h.tn).2.2.2.2.1
  ·exact hs.1
theorem zgm:∀(v:Nat) {e:Eng},e.Ok→(Eng.visit v e).Ok
 | 0,_,h=>h
 | v+1,e,h=>by
  rw [Eng.visit];split
  ·exact zgm v (zl4 h)
  ·exact h
theorem znf {tm:List Int} {t:Int} {j:Nat} (hv:∀t∈tm,t≤never) (h:tmMin tm 0=some (t,j)):t≠never∧j<tm.length∧tm.getD j never=t:=by
 have:=zcu tm 0 hv
 rw [h]at this;obtain⟨_,h2,h3,h4,_⟩:=this;rw [Nat.sub_zero]at h2 h3;refine⟨h4,h2,?_⟩;rw [JA,JC h2]at h3 ⊢;exact h3
theorem zcz:∀(f:Nat) (tm:List Int) (now:Int),(∀t∈tm,t≤never)→(tmDue f tm now).2.length=tm.length∧(∀t∈(tmDue f tm now).2,t≤never)∧(∀k,(tmDue f tm now).2.getD k never≠never→tm.getD k never≠never)∧∀y∈(tmDue f tm now).1,tm.getD y.2 never≠never∧y.2<tm.length
 | 0,tm,now,hv=>⟨rfl,hv,λ_ h=>h,by simp [tmDue]⟩
 | f+1,tm,now,hv=>by
  rw [tmDue];cases hm:tmMin tm 0 with
  | none=>exact⟨rfl,hv,λ_ h=>h,by simp⟩
  | some y=>
   obtain⟨t,k⟩:=y;dsimp only;obtain⟨m1,m2,m3⟩:=znf hv hm;split
   ·obtain⟨i1,i2,i3,i4⟩:=zcz f (tm.set k never) now (zrg hv (Int.le_refl _));have back:∀j,(tm.set k never).getD j never≠never→tm.getD j never≠never:=by
     intro j hj;by_cases hjk:k=j
     ·subst hjk;rw [JA,QR m2]at hj;exact absurd rfl hj
     ·rw [JA,JS hjk,←JA]at hj;exact hj
    refine⟨by rw [i1,JK],i2,λj hj=>back j (i3 j hj),λy hy=> ?_⟩;rcases Jp.1 hy with rfl | hy
    ·exact⟨by rw [m3];exact m1,m2⟩
    ·have:=i4 y hy
     rw [JK]at this;exact⟨back _ this.1,this.2⟩
   ·exact⟨rfl,hv,λ_ h=>h,by simp⟩
theorem zhk {e:Eng} (h:e.Ok):e.wakeAll.Ok:=by
 obtain⟨i1,i2,i3,i4⟩:=zcz e.tm.length e.tm e.clock h.tv;unfold Eng.wakeAll;refine zc9 (λe a h=>zc0 h) _ _ {h with l4:= ?_,tm:= ?_,tv:=i2}
 ·exact i1.trans h.l4
 ·intro k hk;exact h.tm k (i3 k hk)
theorem z13 {e:Eng} (h:e.Ok):e.halt.Ok:=by
 unfold Eng.halt;split
 ·exact{h with}
 ·exact h
theorem zfe {e:Eng} (h:e.Ok) (r:RoundM):(e.start r).Ok:=by
 have h0:=h.c0;have h1:=h.c1;have hn:=nev;have hc:e.clock≤min (tadd e.clock r.ticks) (never-1):=by unfold tadd own;split <;>omega
 refine{h with dO:= ?_,c0:= ?_,c1:= ?_}
 ·intro k x hk;obtain⟨d1,d2,d4⟩:=h.dO k x hk;exact⟨d1,d2,by unfold Eng.start;simp only;omega⟩
 ·unfold Eng.start;simp only;omega
 ·unfold Eng.start;simp only;omega
theorem z0q {e:Eng} (h:e.Ok) (r:RoundM):(e.told r).Ok:=
 zc9 (λe a h=>zgt h a) _ _ (zi0 (zc9 (λe a h=>zfm h a) _ _ (zc9 (λe a h=>zhx h a) _ _ (zfe h r))) r)
theorem zrm {e:Eng} (h:e.Ok) (r:RoundM):(e.round r).Ok:=z13 (zgm _ (zhk (z0q h r)))
theorem zfn {s:Setup} {scripts:List PrM} (hs:good s=true) (hf:∀p∈scripts,p.Fit) (hl:scripts.length≤64):(Eng.new s scripts).Ok:=by
 have hg:=zal hs;have hn:=nev;have hlv:(min (max s.live 1) 1024).toNat=s.live.toNat:=by omega
 have none:∀k,(Eng.new s scripts).seat k=none:=by
  intro k;unfold Eng.new Eng.seat;simp only;rw [JA,QD];split <;>rfl
 refine{sg:=hs,l1:=by simp [Eng.new],l3:=by simp [Eng.new,Turns.new,hlv],l4:=by simp [Eng.new],w:=by simp [Eng.new,Slots.new,hlv,zdl],nd:= ?_,nx:= ?_,n0:=Int.le_refl _,dO:= ?_,tq:=by simp [Eng.new,Turns.new],tn:=by simp [Eng.new,Turns.new],tw:=by simp [Eng.new,Turns.new],tm:= ?_,tv:= ?_,c0:=Int.le_refl _,c1:=by simp only [Eng.new];omega,sc:=hf,sl:=hl}
 ·intro i j x y hx;rw [none]at hx;cases hx
 ·intro k x hx;rw [none]at hx;cases hx
 ·intro k x hx;rw [none]at hx;cases hx
 ·intro k hk;exfalso;apply hk;simp only [Eng.new];rw [JA,QD];split <;>rfl
 ·intro t ht;simp only [Eng.new]at ht;rw [List.eq_of_mem_replicate ht];exact Int.le_refl _
theorem zih (x:Int):∀l:List Int,(zcp x l).Perm (x::l)
 | []=>List.Perm.refl _
 | y::l=>by
  rw [zcp];split
  ·exact List.Perm.refl _
  ·exact((zih x l).cons y).trans (List.Perm.swap x y l)
theorem zff:∀l:List Int,(sortI l).Perm l
 | []=>List.Perm.refl _
 | x::l=>(zih x _).trans ((zff l).cons x)
theorem zmv {s:Slots} {id:Int}:id∈s.live↔id∈s.who∧id≠-1:=by
 unfold Slots.live;rw [(zff _).mem_iff,QN];simp
def Eng.sits (e:Eng) (id:Int):Prop:=∃k x,e.seat k=some x∧x.id=id
theorem Eng.Ok.sits_iff {e:Eng} (h:e.Ok) {id:Int}:id∈e.slots.live↔e.sits id:=by
 rw [zmv,←h.w];constructor
 ·rintro⟨h1,h2⟩;obtain⟨o,ho,he⟩:=Jt.1 h1;cases o with
  | none=>simp [zdl]at he;omega
  | some x=>
   obtain⟨k,hk,hx⟩:=List.mem_iff_getElem.1 ho;exact⟨k,x,zao.2 (by rw [JC hk,hx]),he⟩
 ·rintro⟨k,x,hk,rfl⟩
  have:=zao.1 hk
  refine⟨Jt.2 ⟨some x,JN this,rfl⟩,?_⟩
  have:=(h.nx k x hk).1;omega
theorem Eng.Ok.live_nodup {e:Eng} (h:e.Ok):e.slots.live.Nodup:=by
 unfold Slots.live;rw [(zff _).nodup_iff];unfold List.Nodup;rw [List.pairwise_filter,←h.w,List.pairwise_iff_getElem];intro i j hi hj hij h1 h2 he;simp only [JR]at hi hj;simp only [Qe]at h1 h2 he;cases h3:e.seats[i]with
 | none=>rw [h3]at h1;simp [zdl]at h1
 | some x=>
  cases h4:e.seats[j]with
  | none=>rw [h4]at h2;simp [zdl]at h2
  | some y=>
   rw [h3,h4]at he
   have:=h.nd i j x y (zao.2 (by rw [JC hi,h3])) (zao.2 (by rw [JC hj,h4])) he
   omega
theorem Eng.Ok.live_le {e:Eng} (h:e.Ok):e.slots.live.length≤1024:=by
 have h9:=zal h.sg;have h2:=h.l2
 have:e.slots.live.length≤e.slots.who.length:=by
  unfold Slots.live;rw [(zff _).length_eq];exact QQ _ _
 omega
theorem ztl {e:Eng} (h:e.Ok) (t:Int) (now:Bool) {id id':Int} (hne:id'≠id) (hs:e.sits id'):(e.cut1 t now id).sits id':=by
 obtain⟨k',x',hk',hid'⟩:=hs;unfold Eng.cut1;cases hsl:e.slots.slot id with
 | none=>exact⟨k',x',hk',hid'⟩
 | some k=>
  dsimp only;obtain⟨x,hk,hid⟩:=h.of_slot hsl;rw [hk];dsimp only;have hkk:k'≠k:=by
   intro e1;subst e1;rw [hk]at hk';cases hk';exact hne (hid'.symm.trans hid)
  obtain⟨d1,d2,d4⟩:=h.dO _ _ hk;have hc:=zbv x.d t;have h1:(e.setSeat k (some {x with d:=x.d.cut t})).Ok:=zaq (y:={x with d:=x.d.cut t}) h hk rfl ⟨zly d1 t,hc.1.trans d2,by simp only;rw [hc.2.2];exact d4⟩;have hss:=zag hk {x with d:=x.d.cut t};have hk1:(e.setSeat k (some {x with d:=x.d.cut t})).seat k=some {x with d:=x.d.cut t}:=(hss k).trans (if_pos rfl);have hk2:(e.setSeat k (some {x with d:=x.d.cut t})).seat k'=some x':=((hss k').trans (if_neg hkk)).trans hk';have hst:=(zev h1 hk1).2 k' hkk;split
  ·exact⟨k',x',by rw [za0];exact hk2,hid'⟩
  ·split
   ·exact⟨k',x',by rw [za0,hst];exact hk2,hid'⟩
   ·exact⟨k',x',by rw [hst];exact hk2,hid'⟩
end Go.Proofs.YtbjlfobjngogkaaGreatDoor
namespace Go.Proofs.YtbjlfobjngogkaaGreatDoor
open Go
set_option synthInstance.maxSize 100000
set_option synthInstance.maxHeartbeats 1000000
set_option maxRecDepth 100000
structure TuX where
 bf:Nat
 bp:Nat
 bh:Nat
 f:Ff
 has:List Int
 quantum:Int
 who:Int
 done:Int
 hl:has.length=f.inn.length
 hr:∀i,i<has.length→0≤has.getD i 0∧has.getD i 0≤2000000000
 hq:1≤quantum∧quantum≤1000000
 hw: -1≤who∧who<f.inn.length
 hn:who≠-1→who.toNat∉f.q
def TuX.m (x:TuX):Turns:=⟨x.f.inn.length,x.f.q,x.has,x.quantum,x.who⟩
abbrev tuP (b:Nat) (x:TuX):Chunk:=bk b 264 [.pointer (some (ad x.bf 0)),.pointer (some (ad x.bp 0)),.int .i64 x.who,.int .i64 x.done]
abbrev puP (x:TuX):Chunk:=bk x.bp 352 [.slice (some (ad x.bh 0)) x.f.inn.length x.f.inn.length,.int .i64 x.quantum]
def za3 (b:Nat) (x:TuX):Chunk:=tuP b x++(fifoC x.bf x.f++(puP x++bk x.bh 3 (List.map (Value.int .i64) x.has)))
section
variable {cs:St} {b:Nat} {x:TuX} {put:Chunk→St} {K:Value→SP}
instance {a:Addr} {i:Int}:Go1 (fn 332 [.pointer (some a),.int .i64 i] K cs) (s332 a i K cs):=⟨f332⟩
instance {a:Addr} {i:Int}:Go1 (fn 260 [.pointer (some a),.int .i64 i] K cs) (s260 a i K cs):=⟨f260⟩
instance {a:Addr} {i:Int}:Go1 (fn 245 [.pointer (some a),.int .i64 i] K cs) (s245 a i K cs):=⟨f245⟩
instance {a:Addr} {i j:Int}:Go1 (fn 247 [.pointer (some a),.int .i64 i,.int .i64 j] K cs) (s247 a i j K cs):=⟨f247⟩
instance {a:Addr}:Go1 (fn 243 [.pointer (some a)] K cs) (s243 a K cs):=⟨f243⟩
instance {i j:Int}:Go1 (fn 139 [.int .i64 i,.int .i64 j] K cs) (s139 i j K cs):=⟨f139⟩
theorem zd5 (o:Ob za3 cs b x put) {v:Value} {F c:St} (h:K v cs) [d:Drp c (tuP b x::fifoC x.bf x.f::puP x::bk x.bh 3 (List.map (Value.int .i64) x.has)::F)]:
  ∃q1 q2 q3 q4,Imp c (q1::q2::q3::q4::F)∧K v (put (q1++(q2++(q3++q4)))):=by
 rw [←o.same]at h;exact⟨_,_,_,_,drp,h⟩
instance c80 {most quantum:Int}:Go1 (fn 80 [.int .i64 most,.int .i64 quantum] K cs) (∀b x,TuX.m x=Turns.new most quantum→K (.pointer (some (ad b 0))) (za3 b x::cs)):=⟨λh=>up0 (f80 (by
 unfold s80;refine go ?_;intro bf f hf hl;have e:(if 1024<if 1>most then 1 else most then 1024 else if 1>most then 1 else most)=min (max most 1) 1024:=by omega
 have e2:(if 1000000<if 1>quantum then 1 else quantum then 1000000 else if 1>quantum then 1 else quantum)=min (max quantum 1) 1000000:=by omega
 rw [e,e2];refine⟨by omega,λbh bp b=> ?_⟩;have e3:(min (max most 1) 1024).toNat=f.inn.length:=by omega
 have hh:=h b ⟨bf,bp,bh,f,List.replicate f.inn.length 0,min (max quantum 1) 1000000,-1,0,by simp,λi hi=>by simp [JA,QD];split <;>simp,by omega,by omega,λc=>absurd rfl c⟩ (by simp [TuX.m,Turns.new,hf,e3]);simp only [za3]at hh;rw [e3];exact fin hh))⟩
instance c234 [o:Ob za3 cs b x put] {i:Int}:Go1 (fn 234 [.pointer (some (ad b 0)),.int .i64 i] K cs)
  ((0≤i∧i<x.f.inn.length)∧∀x' r,TuX.m x'=x.m.wake i.toNat→K (.bool r) (put (za3 b x'))):=⟨λ⟨hi,h⟩=>by
 refine o.fn4 (tuP b x) (fifoC x.bf x.f) (puP x) (bk x.bh 3 (List.map (Value.int .i64) x.has)) rfl λF=>f234 ?_;unfold s234;refine goj ?_;simp only [QJ,ne_eq,QC,Jd,JL];have hw:=x.hw;have ei:((i.toNat:Nat):Int)=i:=by omega
 have k1:x.who=i→∀r,K (.bool r) cs:=λc r=>by
  have:=h x r (by simp [Turns.wake,TuX.m,ei,c]);rwa [o.same]at this
 have k2:x.who≠i→i.toNat∈x.f.q→∀r,K (.bool r) cs:=λc hm r=>by
  have:=h x r (by simp [Turns.wake,TuX.m,ei,c,qpush,hm]);rwa [o.same]at this
 have k3:x.who≠i→i.toNat∉x.f.q→∀f':Ff,f'.q=x.f.q++[i.toNat]→f'.inn.length=x.f.inn.length→∀r,∃y:TuX,y.bf=x.bf∧y.bp=x.bp∧y.bh=x.bh∧y.f=f'∧y.has=x.has∧y.quantum=x.quantum∧y.who=x.who∧y.done=x.done∧K (.bool r) (put (za3 b y)):=λc hm f' hf hl r=>by
  refine⟨⟨x.bf,x.bp,x.bh,f',x.has,x.quantum,x.who,x.done,by rw [hl];exact x.hl,x.hr,x.hq,by rw [hl];exact hw,λhh=> ?_⟩,rfl,rfl,rfl,rfl,rfl,rfl,rfl,rfl,h _ r ?_⟩
  ·rw [hf];simp only [JX,Jg,not_or];exact⟨x.hn hh,λe=>c (by omega)⟩
  ·simp [Turns.wake,TuX.m,ei,c,qpush,hm,hf,hl]
 have k4:∀f':Ff,f'.inn.length=x.f.inn.length→x.who≠i→i.toNat∉x.f.q→f'.q=x.f.q++[i.toNat]→∀r,∃q1 q2 q3 q4,Imp (tuP b x::fifoC x.bf f'::puP x::bk x.bh 3 (List.map (Value.int .i64) x.has)::F) (q1::q2::q3::q4::F)∧K (.bool r) (put (q1++(q2++(q3++q4)))):=λf' hl c hm hf r=>by
  obtain⟨y,e1,e2,e3,e4,e5,e6,e7,e8,hk⟩:=k3 c hm f' hf hl r;simp only [za3,tuP,puP,e1,e2,e3,e4,e5,e6,e7,e8,hl]at hk;exact⟨_,_,_,_,drp,hk⟩
 exact⟨λc=>⟨λc1=>zd5 o (k1 c1 _),λc1=>⟨hi,λhm=>zd5 o (k2 c1 hm _),λhm f' hf hl=>k4 f' hl c1 hm hf _⟩⟩,λc=>⟨hi,λhm=>zd5 o (k2 (by omega) hm _),λhm f' hf hl=>k4 f' hl (by omega) hm hf _⟩⟩⟩
instance c160 [o:Ob za3 cs b x put]:Go1 (fn 160 [.pointer (some (ad b 0))] K cs)
  ((x.m.begin.2=none→K (.tuple ⟨[.int .i64 0,.bool false]⟩) cs)∧(∀i:Nat,x.m.begin.2=some i→∀x',TuX.m x'=x.m.begin.1→K (.tuple ⟨[.int .i64 i,.bool true]⟩) (put (za3 b x')))):=⟨λ⟨h0,h1⟩=>by
 refine o.fn4 (tuP b x) (fifoC x.bf x.f) (puP x) (bk x.bh 3 (List.map (Value.int .i64) x.has)) rfl λF=>f160 ?_;unfold s160;refine goj ?_;have hw:=x.hw;simp only [QJ,ne_eq,QC,Jd,JL,Bool.not_true,Bool.not_false,Bool.true_eq_false,QA,true_implies,false_implies,and_true,true_and,JD,JB];refine⟨λc=>zd5 o (h0 (by simp [Turns.begin,TuX.m,c])),λc=>⟨λhq=>zd5 o (h0 (by simp [Turns.begin,TuX.m,c,hq])),λi r hq f' hf hl=> ?_⟩⟩;have him:i<x.f.inn.length:=x.f.lt i (by rw [hq];simp);have hr:=x.hr i (by rw [x.hl];exact him);have hqq:=x.hq;have hnd:=x.f.nd;rw [hq]at hnd;have e1:(if 2000000000<w64 (x.has.getD i 0+x.quantum)then 2000000000 else w64 (x.has.getD i 0+x.quantum))=min (x.has.getD i 0+x.quantum) 2000000000:=by rw [zad (by omega)];omega
 have hh:=h1 i (by simp [Turns.begin,TuX.m,c,hq]) ⟨x.bf,x.bp,x.bh,f',x.has.set i (min (x.has.getD i 0+x.quantum) 2000000000),x.quantum,i,w64 (x.done+1),by rw [hl,JK];exact x.hl,
  λj hj=>by
   rw [zai _ _ _ _ _ (by rw [x.hl];exact him)];split
   ·omega
   ·exact x.hr j (by simpa using hj),x.hq,by rw [hl];omega,λ_=>by rw [hf,JE];exact(List.nodup_cons.1 hnd).1⟩ (by simp [Turns.begin,TuX.m,c,hq,hf,hl])
 simp only [za3,tuP,puP,hl]at hh;simp only [JE,e1,JK,x.hl,Jc,Jl,JD,JB];exact⟨λ_=>⟨λc2=>by omega,λ_=>⟨⟨by omega,by omega⟩,him,⟨by omega,by omega⟩,him,⟨by omega,by omega⟩,him,_,_,_,_,drp,hh⟩⟩,λc2=>by omega⟩⟩
instance c162 [o:Ob za3 cs b x put] {p:Int}:Go1 (fn 162 [.pointer (some (ad b 0)),.int .i64 p] K cs)
  ((-9223372036854775808≤p∧p≤9223372036854775807)∧∀x',TuX.m x'=(x.m.pay p).1→K (.bool (x.m.pay p).2) (put (za3 b x'))):=⟨λ⟨hp,h⟩=>by
 refine o.fn4 (tuP b x) (fifoC x.bf x.f) (puP x) (bk x.bh 3 (List.map (Value.int .i64) x.has)) rfl λF=>f162 ?_;unfold s162;refine goj ?_;have hw:=x.hw;have ep:(if 0>p then 0 else p)=max p 0:=by omega
 simp only [ep,QJ,ne_eq,QC,Jc,Jl,JD,JB,x.hl];refine⟨λc=>⟨λ_=>⟨λc2=>by omega,λ_=>⟨⟨by omega,by omega⟩,by omega,λc3=> ?_,λc3=>⟨⟨by omega,by omega⟩,by omega,⟨by omega,by omega⟩,by omega,?_⟩⟩⟩,λc2=>by omega⟩,λc=> ?_⟩
 ·have p1:x.m.pay p=(x.m,false):=by unfold Turns.pay;rw [if_neg (show¬x.m.who= -1 from c),if_pos (show x.m.has.getD x.m.who.toNat 0<max p 0 from c3)]
  rw [p1]at h
  have:=h x rfl
  rw [o.same]at this;exact zd5 o this
 ·have hlt:x.who.toNat<x.has.length:=by rw [x.hl];omega
  have hr:=x.hr x.who.toNat hlt;have hnn:=x.hn c;have e1:w64 (x.has.getD x.who.toNat 0-max p 0)=x.has.getD x.who.toNat 0-max p 0:=zad (by omega);have p1:x.m.pay p=({x.m with has:=x.has.set x.who.toNat (x.has.getD x.who.toNat 0-max p 0)},true):=by
   unfold Turns.pay;rw [if_neg (show¬x.m.who= -1 from c),if_neg (show¬x.m.has.getD x.m.who.toNat 0<max p 0 from c3)];rfl
  rw [p1]at h;have hh:=h ⟨x.bf,x.bp,x.bh,x.f,x.has.set x.who.toNat (x.has.getD x.who.toNat 0-max p 0),x.quantum,x.who,x.done,by rw [JK];exact x.hl,
   λj hj=>by
    rw [zai _ _ _ _ _ hlt];split
    ·omega
    ·exact x.hr j (by simpa using hj),x.hq,x.hw,x.hn⟩ rfl
  simp only [za3,tuP,puP]at hh;rw [e1];exact⟨_,_,_,_,drp,hh⟩
 ·have p1:x.m.pay p=(x.m,false):=by unfold Turns.pay;rw [if_pos (show x.m.who= -1 from c)]
  rw [p1]at h
  have:=h x rfl
  rw [o.same]at this;exact zd5 o this⟩
theorem zk2 (x:TuX) (f':Ff) (has':List Int) (h1:f'.inn.length=x.f.inn.length) (h2:has'.length=x.has.length) (h3:∀i,i<has'.length→0≤has'.getD i 0∧has'.getD i 0≤2000000000):
  ∃y:TuX,y.m={x.m with q:=f'.q,has:=has',who:=-1}∧∀b,za3 b y=bk b 264 [.pointer (some (ad x.bf 0)),.pointer (some (ad x.bp 0)),.int .i64 (-1),.int .i64 x.done]++(fifoC x.bf f'++(puP x++bk x.bh 3 (List.map (Value.int .i64) has'))):=
 ⟨⟨x.bf,x.bp,x.bh,f',has',x.quantum,-1,x.done,by rw [h2,h1];exact x.hl,h3,x.hq,by omega,λc=>absurd rfl c⟩,by simp [TuX.m,h1],λb=>by simp [za3,tuP,puP,h1]⟩
instance c165 [o:Ob za3 cs b x put] {g:Bool}:Go1 (fn 165 [.pointer (some (ad b 0)),.bool g] K cs)
  (∀x' r,TuX.m x'=x.m.fin g→K (.bool r) (put (za3 b x'))):=⟨λh=>by
 refine o.fn4 (tuP b x) (fifoC x.bf x.f) (puP x) (bk x.bh 3 (List.map (Value.int .i64) x.has)) rfl λF=>f165 ?_;unfold s165;refine goj ?_;have hw:=x.hw;simp only [QJ,ne_eq,QC,Jc,Jl,JD,JB,x.hl];refine⟨λc=> ?_,λc=>⟨λcg=>⟨⟨by omega,by omega⟩,λhm=>absurd hm (x.hn c),λhm f' hf hl=> ?_⟩,λcg=>⟨λ_=>⟨λc2=>by omega,λ_=>⟨⟨by omega,by omega⟩,by omega,⟨by omega,by omega⟩,by omega,?_⟩⟩,λc2=>by omega⟩⟩⟩
 ·have:=h x false (by simp [Turns.fin,TuX.m,c])
  rw [o.same]at this;exact zd5 o this
 ·obtain⟨y,e1,e2⟩:=zk2 x f' x.has hl rfl x.hr;have hh:=h y true (by rw [e1];simp [Turns.fin,TuX.m,c,cg,qpush,hm,hf]);rw [e2]at hh;exact⟨_,_,_,_,drp,hh⟩
 ·have hlt:x.who.toNat<x.has.length:=by rw [x.hl];omega
  obtain⟨y,e1,e2⟩:=zk2 x x.f (x.has.set x.who.toNat 0) rfl (by simp) (λj hj=>by
   rw [zai _ _ _ _ _ hlt];split
   ·omega
   ·exact x.hr j (by simpa using hj))
  have hh:=h y true (by rw [e1];simp [Turns.fin,TuX.m,c,cg]);rw [e2]at hh;exact⟨_,_,_,_,drp,hh⟩⟩
instance c257 [o:Ob za3 cs b x put] {i:Int}:Go1 (fn 257 [.pointer (some (ad b 0)),.int .i64 i] K cs)
  ((0≤i∧i<x.f.inn.length)∧∀x' r,TuX.m x'=x.m.leave i.toNat→K (.bool r) (put (za3 b x'))):=⟨λ⟨hi,h⟩=>by
 have rd:RdB cs b 264 [.pointer (some (ad x.bf 0)),.pointer (some (ad x.bp 0)),.int .i64 x.who,.int .i64 x.done]:=⟨by obtain⟨i,h,_⟩:=o.h;exact Rd.in h (by simp [za3,tuP,bk])⟩;have hw:=x.hw;have ei:((i.toNat:Nat):Int)=i:=by omega
 by_cases c:x.who=i
 ·refine f257 ?_;unfold s257;refine goj ?_;simp only [QJ,ne_eq,QC,Jd,JL];refine⟨λc1=>⟨λ_ x' r hx=>h x' r (by rw [hx];simp [Turns.leave,TuX.m,ei,c]),λc2=>absurd c c2⟩,λc1=>by omega⟩
 ·refine o.fn4 (tuP b x) (fifoC x.bf x.f) (puP x) (bk x.bh 3 (List.map (Value.int .i64) x.has)) rfl λF=>f257 ?_;unfold s257;refine goj ?_;simp only [QJ,ne_eq,QC,Jd,JL,Bool.not_false,Bool.not_true,Bool.true_eq_false,QA,true_implies,false_implies,and_true,true_and,Jc,Jl,JD,JB,x.hl];have c':¬x.m.who=i.toNat:=λe=>c (by rw [←ei];exact e);have k1:i.toNat∉x.f.q→K (.bool false) cs:=λhm=>by
   have:=h x false (by unfold Turns.leave;rw [if_neg c',if_neg (show¬i.toNat∈x.m.q from hm)])
   rwa [o.same]at this
  have k2:i.toNat∈x.f.q→∀f':Ff,f'.q=x.f.q.erase i.toNat→f'.inn.length=x.f.inn.length→∃q1 q2 q3 q4,Imp (tuP b x::fifoC x.bf f'::puP x::bk x.bh 3 (List.map (Value.int .i64) (x.has.set i.toNat 0))::F) (q1::q2::q3::q4::F)∧K (.bool true) (put (q1++(q2++(q3++q4)))):=λhm f' hf hl=>by
   have hlt:i.toNat<x.has.length:=by rw [x.hl];omega
   have hh:=h ⟨x.bf,x.bp,x.bh,f',x.has.set i.toNat 0,x.quantum,x.who,x.done,by rw [hl,JK];exact x.hl,
    λj hj=>by
     rw [zai _ _ _ _ _ hlt];split
     ·omega
     ·exact x.hr j (by simpa using hj),x.hq,by rw [hl];exact x.hw,λhw=>by rw [hf];exact λhx=>x.hn hw (List.mem_of_mem_erase hx)⟩ true (by
     unfold Turns.leave;rw [if_neg c',if_pos (show i.toNat∈x.m.q from hm)];simp [TuX.m,hf,hl])
   simp only [za3,tuP,puP,hl]at hh;exact⟨_,_,_,_,drp,hh⟩
  have k3:(0≤i∧i<x.f.inn.length)∧(i.toNat∉x.f.q→∃q1 q2 q3 q4,Imp (tuP b x::fifoC x.bf x.f::puP x::bk x.bh 3 (List.map (Value.int .i64) x.has)::F) (q1::q2::q3::q4::F)∧K (.bool false) (put (q1++(q2++(q3++q4))))):=⟨hi,λhm=>zd5 o (k1 hm)⟩;exact⟨λ_=>⟨λc1=>absurd c1 c,λ_=>⟨hi,k3.2,λhm f' hf hl=>⟨λ_=>⟨λc2=>by omega,λ_=>⟨hi,by omega,hi,by omega,k2 hm f' hf hl⟩⟩,λc2=>by omega⟩⟩⟩,
   λ_=>⟨hi,k3.2,λhm f' hf hl=>⟨λ_=>⟨λc2=>by omega,λ_=>⟨hi,by omega,hi,by omega,k2 hm f' hf hl⟩⟩,λc2=>by omega⟩⟩⟩⟩
end
def slotI (o:Option Nat):Int:=match o with | some s=>s | none=>0
structure SlX where
 bw:Nat
 bm:Nat
 who:List Int
 M:Mp mvI
 next:Int
 h1:who.length≤1024
 nd:(M.l.map Prod.fst).Nodup
 at1:∀s,s<who.length→who.getD s 0≠-1→iget M.l (who.getD s 0)=some (s:Int)
 at2:∀id s,iget M.l id=some s→0≤s∧s<who.length∧who.getD s.toNat 0=id
 cnt:M.l.length+who.count (-1)=who.length
 hn:0≤next∧next≤4096
 hid:∀id s,iget M.l id=some s→0≤id∧id<next
abbrev SlX.m (x:SlX):Slots:=⟨x.who,x.next⟩
abbrev slP (b:Nat) (x:SlX):Chunk:=bk b 258 [.slice (some (ad x.bw 0)) x.who.length x.who.length,.map (some x.bm),.int .i64 x.next]
def za4 (b:Nat) (x:SlX):Chunk:=slP b x++(bk x.bw 3 (List.map (Value.int .i64) x.who)++mpC mvI x.bm x.M)
theorem SlX.slot_eq (x:SlX) (id:Int):iget x.M.l id=(x.m.slot id).map λs=>(s:Int):=by
 unfold Slots.slot;by_cases h:0≤id∧id∈x.who
 ·rw [if_pos h];have hk:=Jr.2 h.2;have e:x.who.getD (x.who.idxOf id) 0=id:=by rw [JA,JC hk];exact List.getElem_idxOf hk
  have:=x.at1 _ hk (by omega)
  rw [e]at this;exact this
 ·rw [if_neg h];cases hg:iget x.M.l id with
  | none=>rfl
  | some s=>
   obtain⟨a1,a2,a3⟩:=x.at2 id s hg
   have:=x.hid id s hg
   refine absurd ⟨this.1,?_⟩ h;have hlt:s.toNat<x.who.length:=by omega
   rw [JA,JC hlt]at a3;rw [←a3];exact Jq _
section
variable {cs:St} {b:Nat} {x:SlX} {put:Chunk→St} {K:Value→SP}
instance slRd [o:Ob za4 cs b x put]:RdB cs b 258 [.slice (some (ad x.bw 0)) x.who.length x.who.length,.map (some x.bm),.int .i64 x.next]:=⟨by
 obtain⟨i,h,_⟩:=o.h;exact Rd.in h (by simp [za4,slP,bk])⟩
theorem zmd {F c:St} {y:SlX} {v:Value} (b:Nat) {put:Chunk→St} {K:Value→SP} (h:K v (put (za4 b y))) [d:Drp c (slP b y::bk y.bw 3 (List.map (Value.int .i64) y.who)::mpC mvI y.bm y.M::F)]:
  ∃q1 q2 q3,Imp c (q1::q2::q3::F)∧K v (put (q1++(q2++q3))):=⟨_,_,_,drp,h⟩
instance c225 [o:Ob za4 cs b x put]:Go1 (fn 225 [.pointer (some (ad b 0))] K cs) (K (.int .i64 x.next) cs):=⟨λh=>f225 (by unfold s225;exact go h)⟩
instance c235 [o:Ob za4 cs b x put] {id:Int}:Go1 (fn 235 [.pointer (some (ad b 0)),.int .i64 id] K cs) (K (.tuple ⟨[.int .i64 (slotI (x.m.slot id)),.bool (x.m.slot id).isSome]⟩) cs):=⟨λh=>by
 refine o.fn3 (slP b x) (bk x.bw 3 (List.map (Value.int .i64) x.who)) (mpC mvI x.bm x.M) rfl λF=>f235 ?_;rw [←o.same]at h;unfold s235;refine go ?_;rw [x.slot_eq];have e:((x.m.slot id).map λs=>(s:Int)).getD 0=slotI (x.m.slot id):=by cases x.m.slot id <;>rfl
 have e2:((x.m.slot id).map λs=>(s:Int)).isSome=(x.m.slot id).isSome:=by cases x.m.slot id <;>rfl
 rw [e,e2];exact zmd b (y:=x) h⟩
instance c226 [o:Ob za4 cs b x put]:Go1 (fn 226 [.pointer (some (ad b 0))] K cs) (K (.int .i64 (x.m.free:Nat)) cs):=⟨λh=>by
 refine o.fn3 (slP b x) (bk x.bw 3 (List.map (Value.int .i64) x.who)) (mpC mvI x.bm x.M) rfl λF=>f226 ?_;rw [←o.same]at h;unfold s226;refine go ?_
 have:=x.cnt;have:=x.h1
 have e:w64 ((x.who.length:Int)-x.M.l.length)=(x.m.free:Nat):=by rw [zad (by omega)];show _=((x.who.count (-1):Nat):Int);omega
 rw [e];exact zmd b (y:=x) h⟩
theorem SlX.skipX (x:SlX) (h:x.next<4096):∃y:SlX,y.bw=x.bw∧y.bm=x.bm∧y.who=x.who∧y.next=x.next+1∧∀b,za4 b y=bk b 258 [.slice (some (ad x.bw 0)) x.who.length x.who.length,.map (some x.bm),.int .i64 (x.next+1)]++(bk x.bw 3 (List.map (Value.int .i64) x.who)++mpC mvI x.bm x.M):=
 ⟨⟨x.bw,x.bm,x.who,x.M,x.next+1,x.h1,x.nd,x.at1,x.at2,x.cnt,by have:=x.hn;omega,λid s hs=>by have:=x.hid id s hs;omega⟩,rfl,rfl,rfl,rfl,λb=>rfl⟩
instance c147 [o:Ob za4 cs b x put]:Go1 (fn 147 [.pointer (some (ad b 0))] K cs) (∀x',SlX.m x'=x.m.skip→x'.who.length=x.who.length→K (.int .i64 x.m.skipped) (put (za4 b x'))):=⟨λh=>by
 refine o.fn3 (slP b x) (bk x.bw 3 (List.map (Value.int .i64) x.who)) (mpC mvI x.bm x.M) rfl λF=>f147 ?_;have hn:=x.hn;unfold s147;refine goj ?_;simp only [ge_iff_le,JD,JB];refine⟨λc=> ?_,λc=> ?_⟩
 ·have:=h x (by simp [Slots.skip,c]) rfl
  rw [show x.m.skipped= -1 by simp [Slots.skipped,c]]at this;exact zmd b (y:=x) this
 ·obtain⟨y,e1,e2,e3,e4,e5⟩:=x.skipX (by omega)
  have:=h y (by simp [Slots.skip,c,SlX.m,e3,e4]) (by rw [e3])
  rw [show x.m.skipped=x.next by simp [Slots.skipped,c],e5]at this;have w1:w64 (x.next+1)=x.next+1:=zad (by omega)
  have w2:w64 (x.next+1-1)=x.next:=by rw [zad (by omega)];omega
  rw [w1,w2];exact⟨_,_,_,drp,this⟩⟩
instance c227 {b n m:Nat} {T:TypeId} {l:List Int} {a:Int} [r:RdB cs b T (List.map (Value.int .i64) l)]:Go1 (fn 227 [.slice (some (ad b 0)) n m,.int .i64 a] K cs) ((n=l.length∧n≤4611686018427387904)∧K (.int .i64 (if a∈l then(l.idxOf a:Int)else -1)) cs):=⟨λ⟨⟨rfl,hn⟩,h⟩=>f227 (by
 unfold s227;refine lp (λi:Nat=>[.int .i64 i]) (λ_=>cs) (λi=>i≤l.length∧∀j,j<i→l.getD j 0≠a) (λi=>l.length-i) 0 rfl (Imp.refl _) ⟨JJ _,λj hj=>absurd hj (Nat.not_lt_zero _)⟩ ?_;rintro i ⟨hi,hb⟩;refine go ?_;simp only [JE,JD,JB,Jd,JL];refine⟨λc=>⟨⟨by omega,by omega⟩,by omega,λc1=>keq h ?_,λc1=>⟨i+1,by rw [zad (by omega)];simp,Imp.refl _,⟨by omega,λj hj=> ?_⟩,by omega⟩⟩,λc=>keq h ?_⟩
 ·have hlt:i<l.length:=by omega
  have hm:a∈l:=by rw [c1,JA,JC hlt];exact Jq _
  have hk:=Jr.2 hm;have e1:l.idxOf a=i:=by
   rcases Nat.lt_trichotomy (l.idxOf a) i with h1 | h1 | h1
   ·exact absurd (by rw [JA,JC hk];exact List.getElem_idxOf hk) (hb _ h1)
   ·exact h1
   ·have:=List.not_of_lt_findIdx (p:=(· == a)) (xs:=l) (i:=i) h1
    rw [JA,JC hlt]at c1;simp [c1]at this
  rw [if_pos hm,e1]
 ·by_cases e:j=i
  ·subst e;exact λe=>c1 e.symm
  ·exact hb j (by omega)
 ·have:a∉l:=λhm=>by
   obtain⟨j,hj,e⟩:=List.getElem_of_mem hm;exact hb j (by omega) (by rw [JA,JC hj];exact e)
  rw [if_neg this])⟩
theorem zpe:∀(l:List Int) (i:Nat) (v a:Int),i<l.length→l.getD i 0=a→v≠a→(l.set i v).count a+1=l.count a
 | [],_,_,_,h,_,_=>by simp at h
 | y::l,0,v,a,_,h1,h2=>by
  simp at h1;subst h1;simp [List.count_cons,h2]
 | y::l,i+1,v,a,h,h1,h2=>by
  have:=zpe l i v a (by simpa using h) (by simpa using h1) h2
  simp only [List.set_cons_succ,List.count_cons];omega
theorem zsh:∀(l:List Int) (i:Nat) (a:Int),i<l.length→l.getD i 0≠a→(l.set i a).count a=l.count a+1
 | [],_,_,h,_=>by simp at h
 | y::l,0,a,_,h1=>by
  simp at h1;simp [List.count_cons,h1]
 | y::l,i+1,a,h,h1=>by
  have:=zsh l i a (by simpa using h) (by simpa using h1)
  simp only [List.set_cons_succ,List.count_cons];omega
theorem zyw {w:List Int} (h: -1∈w):w.idxOf (-1)<w.length∧w.getD (w.idxOf (-1)) 0= -1:=by
 have hk:=Jr.2 h;exact⟨hk,by rw [JA,JC hk];exact List.getElem_idxOf hk⟩
instance c148 [o:Ob za4 cs b x put]:Go1 (fn 148 [.pointer (some (ad b 0))] K cs)
  ((x.next<4096∧-1∈x.who)∧∀x',SlX.m x'=x.m.open→x'.who.length=x.who.length→K (.tuple ⟨[.int .i64 x.next,.int .i64 (x.m.first:Nat),.bool true]⟩) (put (za4 b x'))):=⟨λ⟨⟨hx,hm⟩,h⟩=>by
 refine o.fn3 (slP b x) (bk x.bw 3 (List.map (Value.int .i64) x.who)) (mpC mvI x.bm x.M) rfl λF=>f148 ?_;have hn:=x.hn;have hc:=x.cnt;have hl:=x.h1;obtain⟨f1,f2⟩:=zyw hm;have hcp:0<x.who.count (-1):=List.count_pos_iff.2 hm;unfold s148;refine goj ?_;simp only [ge_iff_le,JD,JB,Jd,JL,if_pos hm];refine⟨λc=>by omega,λ_=>⟨λc=>by omega,λ_=>⟨⟨trivial,by omega⟩,⟨by omega,by omega⟩,by rw [JE];exact f1,λM' hM=> ?_⟩⟩⟩;rw [zad (by omega),JE];have hnone:iget x.M.l x.next=none:=by
  cases hg:iget x.M.l x.next with
  | none=>rfl
  | some s=>have:=x.hid _ s hg;omega
 have hh:=h ⟨x.bw,x.bm,x.who.set (x.who.idxOf (-1)) x.next,M',x.next+1,by rw [JK];exact hl,by rw [hM];exact ztg x.nd _ _,
  λs hs hne=>by
   simp only [JK]at hs;rw [zai _ _ _ _ _ f1]at hne ⊢;rw [hM,zft];by_cases c:x.who.idxOf (-1)=s
   ·rw [if_pos c,if_pos rfl,c]
   ·rw [if_neg c]at hne ⊢
    have:=x.at1 s hs hne
    have h2:=x.hid _ _ this;rw [if_neg (by omega)];exact this,
  λid s hs=>by
   rw [hM,zft]at hs;simp only [JK];rw [zai _ _ _ _ _ f1];by_cases c:id=x.next
   ·rw [if_pos c]at hs;cases hs;exact⟨by omega,by omega,by rw [if_pos (by omega)];exact c.symm⟩
   ·rw [if_neg c]at hs;have a:=x.at2 id s hs;refine⟨a.1,a.2.1,?_⟩;have h2:=x.hid id s hs;rw [if_neg (λe=>by rw [←e,f2]at a;omega)];exact a.2.2,
  by rw [hM,zqc hnone,JK];have:=zpe x.who _ x.next (-1) f1 f2 (by omega);omega,
  by omega,
  λid s hs=>by
   rw [hM,zft]at hs;by_cases c:id=x.next
   ·omega
   ·rw [if_neg c]at hs;have:=x.hid id s hs;omega⟩ rfl (by simp)
 refine⟨bk b 258 [.slice (some (ad x.bw 0)) x.who.length x.who.length,.map (some x.bm),.int .i64 (x.next+1)],bk x.bw 3 (List.map (Value.int .i64) (x.who.set (x.who.idxOf (-1)) x.next)),mpC mvI x.bm M',drp,?_⟩;simp only [za4,slP,JK]at hh;exact hh⟩
instance c256 [o:Ob za4 cs b x put] {id:Int}:Go1 (fn 256 [.pointer (some (ad b 0)),.int .i64 id] K cs)
  (∀x',SlX.m x'=x.m.close id→x'.who.length=x.who.length→∀r,K (.bool r) (put (za4 b x'))):=⟨λh=>by
 refine o.fn3 (slP b x) (bk x.bw 3 (List.map (Value.int .i64) x.who)) (mpC mvI x.bm x.M) rfl λF=>f256 ?_;have hc:=x.cnt;have hl:=x.h1;unfold s256;refine f235 ?_;unfold s235;refine go ?_;cases hs:x.m.slot id with
 | none=>
  have hg:iget x.M.l id=none:=by rw [x.slot_eq,hs];rfl
  simp only [hg,Option.isSome_none,Option.getD_none];refine⟨λc=>(by cases c),λ_=>zmd b (y:=x) (h x (by simp [Slots.close,hs]) rfl _)⟩
 | some s=>
  have hg:iget x.M.l id=some (s:Int):=by rw [x.slot_eq,hs];rfl
  obtain⟨a1,a2,a3⟩:=x.at2 id s hg;have a4:=x.hid id s hg;simp only [hg,Option.isSome_some,Qd,JE]at a3 ⊢;refine⟨λ_=>⟨⟨a1,a2⟩,by omega,λM' hM=> ?_⟩,λc=>by cases c⟩;have hlt:s<x.who.length:=by omega
  have hh:=h ⟨x.bw,x.bm,x.who.set s (-1),M',x.next,by rw [JK];exact hl,by rw [hM];exact x.nd.sublist (zyk.map _),
   λj hj hne=>by
    simp only [JK]at hj;rw [zai _ _ _ _ _ hlt]at hne ⊢;rw [hM,zmz x.nd];by_cases c:s=j
    ·rw [if_pos c]at hne;exact absurd rfl hne
    ·rw [if_neg c]at hne ⊢
     have:=x.at1 j hj hne
     rw [if_neg (λe=>by rw [e,hg]at this;cases this;omega)];exact this,
   λid' s' hs'=>by
    rw [hM,zmz x.nd]at hs';simp only [JK];by_cases c:id'=id
    ·rw [if_pos c]at hs';cases hs'
    ·rw [if_neg c]at hs';have a:=x.at2 id' s' hs';refine⟨a.1,a.2.1,?_⟩;rw [zai _ _ _ _ _ hlt,if_neg (λe=>by rw [←e,a3]at a;exact c a.2.2.symm)];exact a.2.2,
   by have h1:=zqe hg;rw [hM,JK];have:=zsh x.who s (-1) hlt (by omega);omega,
   x.hn,
   λid' s' hs'=>by
    rw [hM,zmz x.nd]at hs';by_cases c:id'=id
    ·rw [if_pos c]at hs';cases hs'
    ·rw [if_neg c]at hs';exact x.hid id' s' hs'⟩ (by simp [Slots.close,hs]) (by simp) true
  refine⟨slP b x,bk x.bw 3 (List.map (Value.int .i64) (x.who.set s (-1))),mpC mvI x.bm M',drp,?_⟩;simp only [za4,slP,JK]at hh;exact hh⟩
instance c79 {most:Int}:Go1 (fn 79 [.int .i64 most] K cs) (∀b x,SlX.m x=Slots.new most→K (.pointer (some (ad b 0))) (za4 b x::cs)):=⟨λh=>up0 (f79 (by
 unfold s79;have e:(if 1024<if 1>most then 1 else most then 1024 else if 1>most then 1 else most)=min (max most 1) 1024:=by omega
 rw [e];have hx:1≤min (max most 1) 1024∧min (max most 1) 1024≤1024:=by omega
 obtain⟨m,hm⟩:∃m:Nat,min (max most 1) 1024=m:=⟨(min (max most 1) 1024).toNat,by omega⟩;have hnew:Slots.new most=⟨List.replicate m (-1),0⟩:=by unfold Slots.new;rw [hm,JE]
 rw [hm]at hx ⊢;refine go ?_;refine⟨by omega,λbw r M hM b=> ?_⟩;refine lp (λi:Nat=>[.int .i64 i]) (λi=>bk b 258 [.slice (some (ad bw 0)) m m,.map (some r),.int .i64 0]::bk bw 3 (List.map (Value.int .i64) (List.replicate i (-1)++List.replicate (m-i) 0))::mpC mvI r M::cs) (λi=>i≤m) (λi=>m-i) 0 rfl (by simp only [List.replicate_zero,JF,Nat.sub_zero,JE];exact drp) (JJ _) ?_;intro i hi;refine go ?_;simp only [JE,JD,JB];refine⟨λc=>⟨⟨by omega,by omega⟩,by simp;omega,⟨i+1,by rw [zad (by omega)];simp,?_,by omega,by omega⟩⟩,λc=> ?_⟩
 ·have:(List.replicate i (-1:Int)++List.replicate (m-i) 0).set i (-1)=List.replicate (i+1) (-1)++List.replicate (m-(i+1)) 0:=by
   rw [Qg _ _ (by simp)];simp only [QG,Nat.sub_self];obtain⟨d,hd⟩:∃d,m-i=d+1:=⟨m-i-1,by omega⟩;rw [hd,show m-(i+1)=d by omega,List.replicate_succ,List.set_cons_zero,List.replicate_succ' (n:=i),JO];rfl
  rw [this];exact drp
 ·have him:i=m:=by omega
  subst him;have hh:=h b ⟨bw,r,List.replicate i (-1),M,0,by simp;omega,by rw [hM];exact .nil,λs hs hne=>by
    simp only [QG]at hs;simp [JA,QD,hs]at hne,λid s hs=>by rw [hM]at hs;simp [iget]at hs,by rw [hM];simp,by omega,λid s hs=>by rw [hM]at hs;simp [iget]at hs⟩ hnew.symm
  simp only [za4,slP,QG]at hh;simp only [Nat.sub_self,List.replicate_zero,Jj];exact fin hh))⟩
end
@[reducible] def encP:Enc (Option Addr) 1:=⟨λx=>[.pointer x],by omega,λ_=>rfl⟩
instance fdP0:FdP encP 0 id:=⟨λ_=>rfl⟩
@[reducible] def zca (x:EvM):List Value:=[.int .i64 x.kind,.int .i64 x.id,.int .i64 x.n,.int .i64 x.tick,.string x.bytes,.int .i64 x.err,.int .i64 x.step.tick,.int .i64 x.step.at_,.int .i64 x.step.what,.int .i64 x.step.arm,.int .i64 x.step.n,.int .i64 x.step.status]
@[reducible] def encEv:Enc EvM 12:=⟨zca,by omega,λ_=>rfl⟩
abbrev PrV:=PrM×Option Addr×Nat×Nat
@[reducible] def encPr:Enc PrV 4:=⟨λx=>za9 x.1 x.2.1 x.2.2.1 x.2.2.2,by omega,λ_=>rfl⟩
class PrsR (cs:St) (a:Option Addr) (n c:Nat) (ps:outParam (List PrM)):Prop where
 h:∃L,RdS cs encPr a n c L∧L.map Prod.fst=ps∧∀x∈L,PrR cs (za9 x.1 x.2.1 x.2.2.1 x.2.2.2) x.1
theorem PrR.sub {cs cs':St} {v:List Value} {p:PrM} (r:PrR cs v p) (hm:∀x∈cs.flatten,x∈cs'.flatten):PrR cs' v p:=⟨by
 obtain⟨a,n,c,L,h1,h2,h3,h4⟩:=r.h;exact⟨a,n,c,L,h1,h2.sub hm,h3,λx hx=>(h4 x hx).sub hm⟩⟩
theorem PrsR.sub {cs cs':St} {a:Option Addr} {n c:Nat} {ps:List PrM} (r:PrsR cs a n c ps) (hm:∀x∈cs.flatten,x∈cs'.flatten):PrsR cs' a n c ps:=⟨by
 obtain⟨L,h2,h3,h4⟩:=r.h;exact⟨L,h2.sub hm,h3,λx hx=>(h4 x hx).sub hm⟩⟩
instance (priority:=40) prsThere {cs:St} {a:Option Addr} {n c:Nat} {ps:List PrM} {d:Chunk} [r:PrsR cs a n c ps]:PrsR (d::cs) a n c ps:=r.sub (λx hx=>by simp only [JV,JX];exact .inr hx)
structure Scs where
 ps:List PrM
 a:Option Addr
 n:Nat
 c:Nat
 ch:Chunk
 r:PrsR [ch] a n c ps
structure SeatH where
 id:Int
 sb:Nat
 db:Nat
 wb:Nat
 dl:Dl
 wi:Wi
def SeatH.m (s:SeatH):Seat:=⟨s.id,s.dl.d,s.wi.q,s.wi.eof⟩
@[reducible] def zib (s:SeatH):List Value:=[.int .i64 s.id,.pointer (some (ad s.db 0)),.pointer (some (ad s.wb 0))]
def seatC (s:SeatH):Chunk:=bk s.sb 197 (zib s)++(dialC s.db s.dl++wireC s.wb s.wi)
def soC:Option SeatH→Chunk
 | none=>[]
 | some s=>seatC s
def zav (l:List (Option SeatH)):Chunk:=l.flatMap soC
def ptrS (o:Option SeatH):Option Addr:=o.map λs=>ad s.sb 0
structure En where
 m:Eng
 scs:Scs
 slb:Nat
 slx:SlX
 sra:Option Addr
 sn:Nat
 src:Nat
 srch:Chunk
 seats:List (Option SeatH)
 tb:Nat
 tx:TuX
 hb:Nat
 hx:HpW
 mr:Nat
 M:Mp mvI
 rounds:Int
 oa:Option Addr
 on:Nat
 oc:Nat
 och:Chunk
 srow:Row 198 1 sra sn src encP (seats.map ptrS) srch
 orow:Row 101 12 oa on oc encEv m.out och
 r0:scs.ps=m.scripts
 r1:slx.m=m.slots
 r2:tx.m=m.turns
 r3:HpI hx m.tm
 r4:seats.map (Option.map SeatH.m)=m.seats
 ok:m.Ok
@[reducible] def zba (x:En):List Value:=[.int .i64 x.m.s.live,.int .i64 x.m.s.ring,.int .i64 x.m.s.win,.int .i64 x.m.s.out,.int .i64 x.m.s.quantum,.int .i64 x.m.s.visits,.slice x.scs.a x.scs.n x.scs.c,.pointer (some (ad x.slb 0)),.slice x.sra x.sn x.src,.pointer (some (ad x.tb 0)),.pointer (some (ad x.hb 0)),.map (some x.mr),.int .i64 x.m.clock,.int .i64 x.rounds,.bool x.m.drains,.bool x.m.stopped,.slice x.oa x.on x.oc]
abbrev zak (b:Nat) (x:En):St:=[bk b 174 (zba x),x.scs.ch,za4 x.slb x.slx,x.srch,za3 x.tb x.tx,hpC x.hb x.hx,mpC mvI x.mr x.M,x.och,zav x.seats]
def engC (b:Nat) (x:En):Chunk:=(zak b x).flatten
abbrev eFoc (b:Nat) (x:En) (k:Nat) (s:SeatH):St:=[bk b 174 (zba x),x.scs.ch,za4 x.slb x.slx,x.srch,za3 x.tb x.tx,hpC x.hb x.hx,mpC mvI x.mr x.M,x.och,zav (x.seats.take k),bk s.sb 197 (zib s),dialC s.db s.dl,wireC s.wb s.wi,zav (x.seats.drop (k+1))]
theorem zpy {l:List (Option SeatH)} {k:Nat} {s:SeatH} (h:l[k]? =some (some s)):zav l=zav (l.take k)++(seatC s++zav (l.drop (k+1))):=by
 have hl:=(QV.1 h);obtain⟨hl,he⟩:=hl
 have:l=l.take k++(some s::l.drop (k+1)):=by rw [←he,←JM hl,Jx]
 have h2:=congrArg zav this;rw [h2];simp [zav,soC]
theorem zdg {b:Nat} {x:En} {k:Nat} {s:SeatH} (h:x.seats[k]? =some (some s)):(eFoc b x k s).flatten=engC b x:=by
 unfold engC eFoc zak;simp only [JV,List.flatten_nil,Jj,zpy h,seatC,JO]
theorem En.seat_iff (x:En) {k:Nat} {y:Seat}:x.m.seat k=some y↔∃s,x.seats[k]? =some (some s)∧s.m=y:=by
 rw [zao,←x.r4,JW];cases x.seats[k]? with
 | none=>simp
 | some o=>cases o with
  | none=>simp
  | some s=>simp
theorem eShut {b:Nat} {x:En} {F:St}:Imp (zak b x++F) (engC b x::F):=Imp.of_sub (l:=[]) (by simp [engC,zak])
theorem eLay {b:Nat} {x:En} {F:St}:Imp (engC b x::F) (zak b x++F):=Imp.of_sub (l:=[]) (by simp [engC,zak])
theorem zen {b:Nat} {x:En} {k:Nat} {s:SeatH} (h:x.seats[k]? =some (some s)) {F:St}:Imp (eFoc b x k s++F) (engC b x::F):=Imp.of_sub (l:=[]) (by rw [List.flatten_append,zdg h];simp)
theorem eLayF {b:Nat} {x:En} {k:Nat} {s:SeatH} (h:x.seats[k]? =some (some s)) {F:St}:Imp (engC b x::F) (eFoc b x k s++F):=Imp.of_sub (l:=[]) (by rw [List.flatten_append,zdg h];simp)
def En.upS (x:En) (k:Nat) (s s':SeatH) (hk:x.seats[k]? =some (some s)) (hp:s'.sb=s.sb) (ok:(x.m.setSeat k (some s'.m)).Ok):En:=
 {x with
  m:=x.m.setSeat k (some s'.m)
  seats:=x.seats.set k (some s')
  ok:=ok
  srow:=by
   have:(x.seats.set k (some s')).map ptrS=x.seats.map ptrS:=by
    apply List.ext_getElem?;intro i;rw [List.map_set,Jy];split
    ·rename_i hi;subst hi
     have:=zaa hk
     rw [JW,hk];simp [this,ptrS,hp]
    ·rfl
   rw [this];exact x.srow
  r4:=by
   unfold Eng.setSeat;simp only [List.map_set,x.r4];rfl}
theorem ztu {x:En} {k:Nat} {s s':SeatH} {hk:x.seats[k]? =some (some s)} {hp:s'.sb=s.sb} {ok:(x.m.setSeat k (some s'.m)).Ok}:(x.upS k s s' hk hp ok).seats[k]? =some (some s'):=by
 have:=zaa hk
 simp [En.upS,this]
theorem ztv {b:Nat} {x:En} {k:Nat} {s s':SeatH} {hk:x.seats[k]? =some (some s)} {hp:s'.sb=s.sb} {ok:(x.m.setSeat k (some s'.m)).Ok}:eFoc b (x.upS k s s' hk hp ok) k s'=eFoc b x k s':=by
 have h1:(x.seats.set k (some s')).take k=x.seats.take k:=by
  apply List.ext_getElem?;intro i;by_cases hi:i<k
  ·rw [Jz hi,Jz hi,JS (by omega)]
  ·rw [QB (by simp;omega),QB (by simp;omega)]
 have h2:(x.seats.set k (some s')).drop (k+1)=x.seats.drop (k+1):=by
  apply List.ext_getElem?;intro i;rw [QP,QP,JS (by omega)]
 unfold eFoc;simp only [En.upS,zba,Eng.setSeat,h1,h2]
theorem zc7 {b:Nat} {x:En} {k:Nat} {s s':SeatH} (hk:x.seats[k]? =some (some s)) (hp:s'.sb=s.sb) (ok:(x.m.setSeat k (some s'.m)).Ok) {F:St}:Imp (eFoc b x k s'++F) (engC b (x.upS k s s' hk hp ok)::F):=by
 rw [←ztv (b:=b) (hk:=hk) (hp:=hp) (ok:=ok)];exact zen ztu
instance bd101:BdT 101 [(0,1),(1,1),(2,1),(3,1),(4,1),(5,1),(6,6)] [.int .i64 0,.int .i64 0,.int .i64 0,.int .i64 0,.string .empty,.int .i64 0,.int .i64 0,.int .i64 0,.int .i64 0,.int .i64 0,.int .i64 0,.int .i64 0]:=⟨by kernel_rfl⟩
def Seat.post (x:Seat) (now:Int):Seat:=match x.d.step now with
 | none=>x
 | some y=>{x with d:=y.2}
def Eng.pre (e:Eng) (k:Nat) (x:Seat):Eng:=match x.d.step e.clock with
 | none=>e
 | some y=>(e.setSeat k (some {x with d:=y.2})).tell (zar x.id y.1)
theorem z0w {e:Eng} {k:Nat} {x:Seat} (hk:e.seat k=some x):e.step k=if(x.post e.clock).d.status=0 then(true,e.pre k x)else(false,(e.pre k x).gone k x.id):=by
 unfold Eng.step Seat.post Eng.pre;rw [hk];dsimp only;cases x.d.step e.clock with
 | none=>rfl
 | some y=>rfl
theorem z29 {e:Eng} (h:e.Ok) {k:Nat} {x:Seat} (hk:e.seat k=some x):(e.pre k x).Ok∧(e.pre k x).seat k=some (x.post e.clock):=by
 unfold Seat.post Eng.pre;obtain⟨d1,d2,d4⟩:=h.dO k x hk;cases hst:x.d.step e.clock with
 | none=>exact⟨h,hk⟩
 | some y=>
  obtain⟨y,d'⟩:=y;obtain⟨s1,s2,s3,s4,s5,s6⟩:=zch hst;have hok:=zra d1 (by have:=h.c1;omega) hst;refine⟨zd6 (zaq (y:={x with d:=d'}) h hk rfl ⟨hok,s1.trans d2,by simp only;rw [s3];omega⟩) _,?_⟩;exact(zag hk _ k).trans (if_pos rfl)
instance rowSet1 {α:Type} {T by_ t t' n c:Nat} {i:Int} {a:Option Addr} {e:Enc α 1} {l:List α} {cs:St} {ch:Chunk} {put:Chunk→St} {v:Value} {K:SP} [p:SlcT t T 1 by_] [q:SzT t' 1] [r:Row T 1 a n c e l ch] [at_:ChAt cs ch put] [o1:One v]:
  Go1 (ix t (.slice a n c) i (λp=>st t' p v K) cs) ((0≤i∧i<n)∧∃y,e.f y=[v]∧∀ch',Row T 1 a n c e (l.set i.toNat y) ch'→K (put ch')):=⟨λ⟨hi,y,hy,hh⟩=>by
 have hlen:=r.len;have hlt:i.toNat<l.length:=by omega
 obtain⟨k,hk,hput⟩:=at_.h;obtain⟨rb,o,X,Z,rfl,ho,hch,hrow⟩:=r.split hlt;refine ix_at hi.1 hi.2 ?_ (zew p);have he:=e.len l[i.toNat];refine st_wr (l:=[v]) (by rw [zds o1.h]) (λu hu=>by rw [Jg.1 hu];exact o1.h) (by simp only [JP];exact q.h) ⟨k,T,_,by rw [←hch];exact hk,?_,rfl⟩ ?_
 ·simp only [JH,JP];omega
 ·have e5:lay (X++(e.f l[i.toNat]++Z)) (o+i.toNat*1) [v]=X++(e.f y++Z):=by
   rw [ho,←Nat.add_zero X.length,zmx X [] 0,zix _ _ _ _ (by simp only [JP];omega),hy];obtain⟨u,hu⟩:=List.length_eq_one_iff.1 he;rw [hu];rfl
  rw [e5,←hput];exact hh _ (hrow y)⟩
theorem zla {l:List (Option SeatH)} {k:Nat} (h:k<l.length):zav (l.set k none)=zav (l.take k)++zav (l.drop (k+1)):=by
 rw [List.set_eq_take_append_cons_drop,if_pos h];simp [zav,soC]
section
variable {cs:St} {b:Nat} {x:En} {put:Chunk→St} {K:Value→SP}
instance engRd [o:Ob engC cs b x put]:RdB cs b 174 (zba x):=⟨by
 obtain⟨i,h,_⟩:=o.h;exact Rd.in h (by simp [engC,zak,bk])⟩
theorem eKeep (o:Ob engC cs b x put) {F c:St} {v:Value} (h:K v cs) (hi:Imp c (zak b x++F)):∃parts',Imp c (parts'++F)∧K v (put parts'.flatten):=⟨zak b x,hi,by show K v (put (engC b x));rw [o.same];exact h⟩
theorem eDone {F c:St} {v:Value} (x':En) (hi:Imp c (engC b x'::F)) (h:K v (put (engC b x'))):∃parts',Imp c (parts'++F)∧K v (put parts'.flatten):=⟨[engC b x'],hi,by simpa using h⟩
instance c86 [o:Ob engC cs b x put] {k id n t er t1 t2 t3 t4 t5 t6:Int} {s:ByteArray}:Go1 (fn 86 [.pointer (some (ad b 0)),.agg ⟨[.int .i64 k,.int .i64 id,.int .i64 n,.int .i64 t,.string s,.int .i64 er,.int .i64 t1,.int .i64 t2,.int .i64 t3,.int .i64 t4,.int .i64 t5,.int .i64 t6]⟩] K cs)
  (x.m.out.length<1000000000000∧∀x',En.m x'=x.m.tell ⟨k,id,n,t,s,er,⟨t1,t2,t3,t4,t5,t6⟩⟩→x'.seats=x.seats→K undef (put (engC b x'))):=⟨λ⟨hl,h⟩=>o.fn (zak b x) rfl λF=>f86 (by
 have hr:=x.orow;have hn:=x.orow.len;simp only [JI,JF];unfold s86;refine go λb1=>⟨by decide,λb2=>⟨⟨by omega,by omega⟩,⟨k,id,n,t,s,er,⟨t1,t2,t3,t4,t5,t6⟩⟩,rfl,λa' c' ch' r'=> ?_⟩⟩;refine go ?_;refine eDone {x with m:=x.m.tell ⟨k,id,n,t,s,er,⟨t1,t2,t3,t4,t5,t6⟩⟩,oa:=a',on:=x.on+1,oc:=c',och:=ch',orow:=r',ok:=zd6 x.ok _} (Imp.trans ?_ eShut) (h _ rfl rfl);dsimp only [zak,zba,Eng.tell,List.cons_append,List.nil_append];exact drp)⟩
instance c152 [o:Ob engC cs b x put] {id:Int}:Go1 (fn 152 [.pointer (some (ad b 0)),.int .i64 id] K cs)
  ((x.m.slots.slot id=none→K (.tuple ⟨[.pointer none,.int .i64 0,.bool false]⟩) cs)∧∀(k:Nat) (s:SeatH),x.m.slots.slot id=some k→x.seats[k]? =some (some s)→s.id=id→K (.tuple ⟨[.pointer (some (ad s.sb 0)),.int .i64 k,.bool true]⟩) cs):=⟨λ⟨h1,h2⟩=>o.fn (zak b x) rfl λF=>f152 (by
 have hr:=x.srow;have hn:=x.srow.len;simp only [JI,JF];unfold s152;refine go ⟨λc1=> ?_,λc1=> ?_⟩
 ·have hs:x.m.slots.slot id=none:=by
   rw [←x.r1];simpa using c1
  exact eKeep o (h1 hs) (Imp.refl _)
 ·have hs':(x.slx.m.slot id).isSome=true:=by simpa using c1
  obtain⟨k,hk⟩:=Option.isSome_iff_exists.1 hs';have hk2:x.m.slots.slot id=some k:=by rw [←x.r1];exact hk
  obtain⟨y,hy,hid⟩:=x.ok.of_slot hk2;obtain⟨s,hs,hm⟩:=x.seat_iff.1 hy;have hlt:=zaa hs;rw [JR]at hn;have e1:slotI (x.slx.m.slot id)=(k:Int):=by rw [hk];rfl
  rw [e1];refine⟨⟨by omega,by omega⟩,λp hp=> ?_⟩;rw [JE,JW,hs]at hp;cases hp;refine eKeep o (h2 k s hk2 hs (by rw [←hid,←hm];rfl)) (Imp.refl _))⟩
instance c151 [o:Ob engC cs b x put] {i:Int}:Go1 (fn 151 [.pointer (some (ad b 0)),.int .i64 i] K cs)
  ((0≤i∧∃s,x.seats[i.toNat]? =some (some s))∧∀x',En.m x'=x.m.settle i.toNat→x'.seats=x.seats→K undef (put (engC b x'))):=⟨λ⟨⟨hi,s,hs⟩,h⟩=>by
 obtain⟨k,rfl⟩:∃k:Nat,i=k:=⟨i.toNat,by omega⟩;rw [JE]at hs h;refine o.fn (eFoc b x k s) (zdg hs) λF=>f151 ?_;have hr:=x.srow;have hn:=x.srow.len;have hlt:=zaa hs;have hseat:x.m.seat k=some s.m:=x.seat_iff.2 ⟨s,hs,rfl⟩;have hkl:=x.ok.lt hseat;have htl:=x.r3.cns.tl;have h4:=x.ok.l4;have h3:=x.ok.l3;have hlen:x.tx.f.inn.length=x.m.turns.most:=by rw [←x.r2];rfl
 have hnl:=zqa s.dl.d;have hok:=zc0 x.ok (k:=k);rw [JR]at hn;have es:x.m.settle k={x.m with tm:=tmSet x.m.tm k s.dl.d.next,turns:=if s.dl.d.ready x.m.clock then x.m.turns.wake k else x.m.turns}:=by
  unfold Eng.settle;rw [hseat];rfl
 rw [es]at h hok;simp only [JI,JF];unfold s151;refine go ⟨⟨by omega,by omega⟩,λp hp=> ?_⟩;rw [JE,JW,hs]at hp;cases hp;simp only [ptrS,QW,id];refine go ⟨x.m.tm,⟨⟨by omega,by omega⟩,hnl⟩,x.r3,λw' g1 g2 r=> ?_⟩;rw [JE]at g1;refine go ⟨λc1=>⟨⟨by omega,by omega⟩,λt' r' q1=> ?_⟩,λc1=> ?_⟩
 ·rw [JE,x.r2]at q1;rw [c1,if_pos rfl]at h hok
  let x':En:={x with m:={x.m with tm:=tmSet x.m.tm k s.dl.d.next,turns:=x.m.turns.wake k},hx:=w',tx:=t',r3:=g1,r2:=q1,ok:=hok}
  refine eDone x' (Imp.trans ?_ (zen (x:=x') (k:=k) (s:=s) hs)) (h _ rfl rfl);dsimp only [x',eFoc,zba,List.cons_append,List.nil_append];exact drp
 ·rw [c1,if_neg (by decide)]at h hok
  let x':En:={x with m:={x.m with tm:=tmSet x.m.tm k s.dl.d.next},hx:=w',r3:=g1,ok:=hok}
  refine eDone x' (Imp.trans ?_ (zen (x:=x') (k:=k) (s:=s) hs)) (h _ rfl rfl);dsimp only [x',eFoc,zba,List.cons_append,List.nil_append];exact drp⟩
instance c164 [o:Ob engC cs b x put] {i:Int}:Go1 (fn 164 [.pointer (some (ad b 0)),.int .i64 i] K cs)
  (∃(k:Nat) (s:SeatH),(i=k∧x.seats[k]? =some (some s)∧x.m.out.length<1000000000000)∧∀x',En.m x'=(x.m.step k).2→((x.m.step k).1=true→∃s',x'.seats=x.seats.set k (some s')∧s'.sb=s.sb∧s'.db=s.db∧s'.wb=s.wb)→K (.bool (x.m.step k).1) (put (engC b x'))):=⟨λ⟨k,s,⟨hi,hs,hl⟩,h⟩=>by
 subst hi;refine o.fn (eFoc b x k s) (zdg hs) λF=>f164 ?_;have hr:=x.srow;have hn:=x.srow.len;have hlt:=zaa hs;have hseat:x.m.seat k=some s.m:=x.seat_iff.2 ⟨s,hs,rfl⟩;have hse:=z0w hseat;obtain⟨hpo,hps⟩:=z29 x.ok hseat;rw [JR]at hn;have hcl:=x.ok.c1;simp only [JI,JF];unfold s164;refine go ⟨⟨by omega,by omega⟩,λp hp=> ?_⟩;rw [JE,JW,hs]at hp;cases hp;simp only [ptrS,QW,id];refine⟨λl cx=>∃q v did dl',l=[.pointer (some (ad q 0)),.bool did]∧Imp cx (bk q 99 v::(eFoc b x k {s with dl:=dl'}++F))∧((did=false∧s.dl.d.step x.m.clock=none∧dl'=s.dl)∨(did=true∧∃y,v=stC y∧s.dl.d.step x.m.clock=some (y,Dl.d dl'))),?_,?_⟩
 ·rintro l cx ⟨q,v,did,dl',rfl,hi,hc⟩;refine⟨_,hi,?_⟩;refine go ?_;refine⟨λl cx=>∃x1:En,x1.m=x.m.pre k s.m∧x1.seats=x.seats.set k (some {s with dl:=dl'})∧Imp cx (eFoc b x1 k {s with dl:=dl'}++F),?_,?_⟩
  ·rintro l cx ⟨x1,hm1,hs1,hi1⟩;refine⟨_,hi1,?_⟩;have hpd:(s.m.post x.m.clock).d=dl'.d:=by
    unfold Seat.post;rcases hc with ⟨_,hst,rfl⟩ | ⟨_,y,_,hst⟩
    ·rw [show s.m.d=s.dl.d from rfl,hst];rfl
    ·rw [show s.m.d=s.dl.d from rfl,hst]
   rw [hpd]at hse;have hg1:x1.seats[k]? =some (some {s with dl:=dl'}):=by rw [hs1];simp [hlt]
   simp only [JI,JF];refine go λM1 hM1=> ?_;simp only [Jd,JL,ne_eq];refine⟨λc1=> ?_,λc1=> ?_⟩
   ·rw [if_pos c1]at hse;rw [hse]at h;refine eDone {x1 with M:=M1} (Imp.trans ?_ (zen (x:={x1 with M:=M1}) hg1)) (h _ hm1 λ_=>⟨_,hs1,rfl,rfl,rfl⟩);dsimp only [eFoc,zba,List.cons_append,List.nil_append];exact drp
   ·rw [if_neg c1]at hse;rw [hse]at h;have hr1:=x1.srow;have hn1:=x1.srow.len;rw [JR]at hn1;have hl1:=zaa hg1;have hseat1:x1.m.seat k=some (SeatH.m {s with dl:=dl'}):=x1.seat_iff.2 ⟨_,hg1,rfl⟩;have hkl:=x1.ok.lt hseat1;have htl:=x1.r3.cns.tl;have h4:=x1.ok.l4;have h3:=x1.ok.l3;have hlen:x1.tx.f.inn.length=x1.m.turns.most:=by rw [←x1.r2];rfl
    have hgo:=zqf x1.ok hseat1;refine go λwi' w1 w2 slx' g1 g2 r6=>⟨⟨by omega,by omega⟩,none,rfl,λch' r'=> ?_⟩;refine go ⟨⟨by omega,by omega⟩,λtx' r7 q1=>⟨x1.m.tm,⟨by omega,by omega⟩,x1.r3,λhx' q2 q3 r8=> ?_⟩⟩;rw [JE]at q1 q2 r';have esl:slx'.m=x1.m.slots.close s.id:=by rw [g1,x1.r1]
    have etx:tx'.m=x1.m.turns.leave k:=by rw [q1,x1.r2]
    have emap:(x1.seats.set k none).map ptrS=(x1.seats.map ptrS).set k none:=by rw [List.map_set];rfl
    let x2:En:={x1 with m:=x1.m.gone k s.id,slx:=slx',srch:=ch',seats:=x1.seats.set k none,tx:=tx',hx:=hx',M:=M1,srow:=by rw [emap];exact r',r1:=esl,r2:=etx,r3:=q2,r4:=by unfold Eng.gone;simp only [List.map_set,x1.r4];rfl,ok:=hgo}
    refine eDone x2 (Imp.trans ?_ eShut) (h x2 (by show x1.m.gone k s.id=_;rw [hm1];rfl) (λhc=>by cases hc));have e1:zav x2.seats=zav (x1.seats.take k)++zav (x1.seats.drop (k+1)):=zla hl1;dsimp only [zak];rw [e1];dsimp only [x2,zba,Eng.gone,List.cons_append,List.nil_append];exact drp
  ·simp only [JI,JF];rcases hc with ⟨rfl,hst,rfl⟩ | ⟨rfl,y,rfl,hst⟩
   ·refine go ?_;refine⟨x,?_,?_,?_⟩
    ·unfold Eng.pre;rw [show s.m.d=s.dl.d from rfl,hst]
    ·apply List.ext_getElem?;intro i;rw [Jy];split
     ·rename_i hi;subst hi;exact hs
     ·rfl
    ·exact drp
   ·have hok1:(x.m.setSeat k (some ({s with dl:=dl'}:SeatH).m)).Ok:=by
     unfold Eng.pre at hpo;rw [show s.m.d=s.dl.d from rfl,hst]at hpo;exact{hpo with}
    have hpre:x.m.pre k s.m=(x.m.setSeat k (some ({s with dl:=dl'}:SeatH).m)).tell (zar s.id y):=by
     unfold Eng.pre;rw [show s.m.d=s.dl.d from rfl,hst];rfl
    simp only [stC];refine go ?_
    let xs:En:=x.upS k s {s with dl:=dl'} hs rfl hok1
    refine zaj (cs':=engC b xs::bk q 99 (stC y)::F) (Imp.trans (by dsimp only [List.cons_append,List.nil_append];exact drp) (zc7 (s':={s with dl:=dl'}) hs rfl hok1)) ?_;refine go ⟨hl,λx2 hx2 hs2=> ?_⟩;have hs3:x2.seats=x.seats.set k (some {s with dl:=dl'}):=hs2;refine⟨x2,?_,hs3,?_⟩
    ·rw [hpre,hx2];rfl
    ·exact Imp.trans drp (eLayF (b:=b) (x:=x2) (k:=k) (s:={s with dl:=dl'}) (by rw [hs3];simp [hlt]))
 ·refine go ⟨⟨by omega,λhst q=>⟨q,st0,false,s.dl,rfl,?_,.inl ⟨rfl,hst,rfl⟩⟩,λy d' hst dl' hdl q=> ?_⟩,λq=>⟨by omega,λhst=>⟨q,st0,false,s.dl,rfl,?_,.inl ⟨rfl,hst,rfl⟩⟩,λy d' hst dl' hdl=>⟨q,stC y,true,dl',rfl,?_,.inr ⟨rfl,y,rfl,by rw [hdl];exact hst⟩⟩⟩⟩
  ·dsimp only [eFoc,List.cons_append,List.nil_append];exact drp
  ·refine go ⟨q,stC y,true,dl',rfl,?_,.inr ⟨rfl,y,rfl,by rw [hdl];exact hst⟩⟩;dsimp only [eFoc,List.cons_append,List.nil_append];exact drp
  ·dsimp only [eFoc,List.cons_append,List.nil_append];exact drp
  ·dsimp only [eFoc,List.cons_append,List.nil_append];exact drp⟩
end
end Go.Proofs.YtbjlfobjngogkaaGreatDoor
namespace Go.Proofs.YtbjlfobjngogkaaGreatDoor
open Go Go.Proofs Go.Shelf
def zst:Go.Shelf.Ren:=⟨λ| 5=>108 | 8=>186 | 7=>185 | 19=>283 | 20=>284 | 10=>274 | 11=>275 | 12=>276 | 13=>277 | 14=>278 | 15=>279 | 16=>280 | 17=>281 | 18=>282 | 30=>352 | 31=>353 | 32=>354 | 33=>355 | 34=>356 | 35=>351 | 40=>396 | n=>n,λ| 23=>34 | 25=>3 | 3=>3 | 32=>317 | 22=>34 | 0=>0 | 44=>394 | 46=>396 | 4=>4 | 36=>388 | 35=>387 | 41=>55 | 5=>5 | 9=>9 | 53=>450 | 57=>454 | 63=>486 | 64=>487 | n=>n,λ| n=>n⟩
theorem zrf:Go.Proofs.SlLaysM.n5 Tryz.prog zst:={
 mixed:=by kernel_rfl
 f5:=⟨Tryz.f108.name,by decide,Tryz.func108.trans (congrArg some (by kernel_rfl))⟩
 f7:=⟨Tryz.f185.name,by decide,Tryz.func185.trans (congrArg some (by kernel_rfl))⟩
 f8:=Tryz.func186.trans (congrArg some (by kernel_rfl))
 f10:=⟨Tryz.f274.name,by decide,Tryz.func274.trans (congrArg some (by kernel_rfl))⟩
 f11:=⟨Tryz.f275.name,by decide,Tryz.func275.trans (congrArg some (by kernel_rfl))⟩
 f12:=⟨Tryz.f276.name,by decide,Tryz.func276.trans (congrArg some (by kernel_rfl))⟩
 f13:=⟨Tryz.f277.name,by decide,Tryz.func277.trans (congrArg some (by kernel_rfl))⟩
 f14:=⟨Tryz.f278.name,by decide,Tryz.func278.trans (congrArg some (by kernel_rfl))⟩
 f15:=⟨Tryz.f279.name,by decide,Tryz.func279.trans (congrArg some (by kernel_rfl))⟩
 f16:=⟨Tryz.f280.name,by decide,Tryz.func280.trans (congrArg some (by kernel_rfl))⟩
 f17:=⟨Tryz.f281.name,by decide,Tryz.func281.trans (congrArg some (by kernel_rfl))⟩
 f18:=⟨Tryz.f282.name,by decide,Tryz.func282.trans (congrArg some (by kernel_rfl))⟩
 f19:=Tryz.func283.trans (congrArg some (by kernel_rfl))
 f20:=Tryz.func284.trans (congrArg some (by kernel_rfl))
 f30:=⟨Tryz.f352.name,by decide,Tryz.func352.trans (congrArg some (by kernel_rfl))⟩
 f31:=Tryz.func353.trans (congrArg some (by kernel_rfl))
 f32:=Tryz.func354.trans (congrArg some (by kernel_rfl))
 f33:=⟨Tryz.f355.name,by decide,Tryz.func355.trans (congrArg some (by kernel_rfl))⟩
 f34:=⟨Tryz.f356.name,by decide,Tryz.func356.trans (congrArg some (by kernel_rfl))⟩
 f35:=⟨Tryz.f351.name,by decide,Tryz.func351.trans (congrArg some (by kernel_rfl))⟩
 f40:=⟨Tryz.f396.name,by decide,Tryz.func396.trans (congrArg some (by kernel_rfl))⟩
 t0:=Tryz.underlying0
 a0:=Tryz.isAgg0
 z0:=Tryz.sizeOf0
 v0:=Tryz.zeroValue0
 t3:=Tryz.underlying3
 a3:=Tryz.isAgg3
 z3:=Tryz.sizeOf3
 v3:=Tryz.zeroValue3
 t4:=Tryz.underlying4
 a4:=Tryz.isAgg4
 z4:=Tryz.sizeOf4
 v4:=Tryz.zeroValue4
 t5:=Tryz.underlying5
 a5:=Tryz.isAgg5
 z5:=Tryz.sizeOf5
 v5:=Tryz.zeroValue5
 t9:=Tryz.underlying9
 a9:=Tryz.isAgg9
 z9:=Tryz.sizeOf9
 v9:=Tryz.zeroValue9
 t22:=Tryz.underlying34
 a22:=Tryz.isAgg34
 z22:=Tryz.sizeOf34
 v22:=Tryz.zeroValue34
 t23:=Tryz.underlying34
 a23:=Tryz.isAgg34
 z23:=Tryz.sizeOf34
 v23:=Tryz.zeroValue34
 t25:=Tryz.underlying3
 a25:=Tryz.isAgg3
 z25:=Tryz.sizeOf3
 v25:=Tryz.zeroValue3
 t32:=Tryz.underlying317
 a32:=Tryz.isAgg317
 z32:=Tryz.sizeOf317
 v32:=Tryz.zeroValue317
 t35:=Tryz.underlying387
 a35:=Tryz.isAgg387
 z35:=Tryz.sizeOf387
 v35:=Tryz.zeroValue387
 t36:=Tryz.underlying388
 a36:=Tryz.isAgg388
 z36:=Tryz.sizeOf388
 v36:=Tryz.zeroValue388
 t41:=Tryz.underlying55
 a41:=Tryz.isAgg55
 z41:=Tryz.sizeOf55
 v41:=Tryz.zeroValue55
 t44:=Tryz.underlying394
 a44:=Tryz.isAgg394
 z44:=Tryz.sizeOf394
 v44:=Tryz.zeroValue394
 t46:=Tryz.underlying396
 a46:=Tryz.isAgg396
 z46:=Tryz.sizeOf396
 v46:=Tryz.zeroValue396
 t53:=Tryz.underlying450
 a53:=Tryz.isAgg450
 z53:=Tryz.sizeOf450
 v53:=Tryz.zeroValue450
 t57:=Tryz.underlying454
 a57:=Tryz.isAgg454
 z57:=Tryz.sizeOf454
 v57:=Tryz.zeroValue454
 t63:=Tryz.underlying486
 a63:=Tryz.isAgg486
 z63:=Tryz.sizeOf486
 v63:=Tryz.zeroValue486
 t64:=Tryz.underlying487
 a64:=Tryz.isAgg487
 z64:=Tryz.sizeOf487
 v64:=Tryz.zeroValue487}
def zk8:Go.Shelf.Ren:=⟨λ| 7=>169 | 10=>265 | n=>n,λ| 23=>88 | 26=>3 | 3=>3 | 28=>301 | 0=>0 | 27=>300 | 33=>295 | 4=>4 | n=>n,λ| n=>n⟩
theorem zzv:Go.Proofs.SlLaysZI.n7 Tryz.prog zk8:={
 mixed:=by kernel_rfl
 f7:=⟨Tryz.f169.name,by decide,Tryz.func169.trans (congrArg some (by kernel_rfl))⟩
 f10:=⟨Tryz.f265.name,by decide,Tryz.func265.trans (congrArg some (by kernel_rfl))⟩
 t0:=Tryz.underlying0
 a0:=Tryz.isAgg0
 z0:=Tryz.sizeOf0
 v0:=Tryz.zeroValue0
 t4:=Tryz.underlying4
 a4:=Tryz.isAgg4
 z4:=Tryz.sizeOf4
 v4:=Tryz.zeroValue4
 t23:=Tryz.underlying88
 a23:=Tryz.isAgg88
 z23:=Tryz.sizeOf88
 v23:=Tryz.zeroValue88
 t26:=Tryz.underlying3
 a26:=Tryz.isAgg3
 z26:=Tryz.sizeOf3
 v26:=Tryz.zeroValue3
 t27:=Tryz.underlying300
 a27:=Tryz.isAgg300
 z27:=Tryz.sizeOf300
 v27:=Tryz.zeroValue300
 t28:=Tryz.underlying301
 a28:=Tryz.isAgg301
 z28:=Tryz.sizeOf301
 v28:=Tryz.zeroValue301
 t33:=Tryz.underlying295
 a33:=Tryz.isAgg295
 z33:=Tryz.sizeOf295
 v33:=Tryz.zeroValue295}
def zia:Go.Shelf.Ren:=⟨λ| 6=>168 | 8=>264 | 9=>108 | 11=>341 | 13=>186 | 12=>185 | 23=>283 | 24=>284 | 14=>274 | 15=>275 | 16=>276 | 17=>277 | 18=>278 | 19=>279 | 20=>280 | 21=>281 | 22=>282 | 25=>352 | 26=>353 | 27=>354 | 28=>355 | 29=>356 | 30=>351 | 31=>396 | n=>n,λ| 26=>3 | 28=>301 | 24=>34 | 0=>0 | 3=>3 | 37=>317 | 48=>394 | 50=>396 | 4=>4 | 40=>388 | 39=>387 | 45=>55 | 5=>5 | 9=>9 | 51=>450 | 55=>454 | 57=>486 | 58=>487 | 33=>295 | n=>n,λ| n=>n⟩
theorem zxm:Go.Proofs.SlLaysZI.n6 Tryz.prog zia:={
 mixed:=by kernel_rfl
 f6:=⟨Tryz.f168.name,by decide,Tryz.func168.trans (congrArg some (by kernel_rfl))⟩
 f8:=⟨Tryz.f264.name,by decide,Tryz.func264.trans (congrArg some (by kernel_rfl))⟩
 f11:=⟨Tryz.f341.name,by decide,Tryz.func341.trans (congrArg some (by kernel_rfl))⟩
 t0:=Tryz.underlying0
 a0:=Tryz.isAgg0
 z0:=Tryz.sizeOf0
 v0:=Tryz.zeroValue0
 t24:=Tryz.underlying34
 a24:=Tryz.isAgg34
 z24:=Tryz.sizeOf34
 v24:=Tryz.zeroValue34
 t26:=Tryz.underlying3
 a26:=Tryz.isAgg3
 z26:=Tryz.sizeOf3
 v26:=Tryz.zeroValue3
 t28:=Tryz.underlying301
 a28:=Tryz.isAgg301
 z28:=Tryz.sizeOf301
 v28:=Tryz.zeroValue301
 i26:=by kernel_rfl}
def zme:Go.Shelf.Ren:=⟨λ| 20=>109 | n=>n,λ| 22=>34 | 3=>3 | 4=>4 | 0=>0 | n=>n,λ| n=>n⟩
theorem znx:Go.Proofs.Lays2.n20 Tryz.prog zme:={
 mixed:=by kernel_rfl
 f20:=Tryz.func109.trans (congrArg some (by kernel_rfl))
 t0:=Tryz.underlying0
 a0:=Tryz.isAgg0
 z0:=Tryz.sizeOf0
 v0:=Tryz.zeroValue0
 t3:=Tryz.underlying3
 a3:=Tryz.isAgg3
 z3:=Tryz.sizeOf3
 v3:=Tryz.zeroValue3
 t4:=Tryz.underlying4
 a4:=Tryz.isAgg4
 z4:=Tryz.sizeOf4
 v4:=Tryz.zeroValue4
 t22:=Tryz.underlying34
 a22:=Tryz.isAgg34
 z22:=Tryz.sizeOf34
 v22:=Tryz.zeroValue34
 i3:=by kernel_rfl}
end Go.Proofs.YtbjlfobjngogkaaGreatDoor
namespace Go.Proofs.YtbjlfobjngogkaaGreatDoor
open Go Go.RowKit Go.Sort
set_option synthInstance.maxSize 100000
set_option synthInstance.maxHeartbeats 1000000
set_option maxRecDepth 100000
@[reducible] def zah:Enc Int 1:=⟨λx=>[.int .i64 x],by omega,λ_=>rfl⟩
instance fdI64:FdI zah 0 .i64 id:=⟨λ_=>rfl⟩
theorem zgg (l:List Int):l.flatMap zah.f=l.map (Value.int .i64):=by
 induction l with
 | nil=>rfl
 | cons x l ih=>rw [QO,ih];rfl
theorem zwe:∃fn,Tryz.prog.funcs[108]? =some fn∧(fn.name == "runtime.NumGoroutine")=false∧fn.body.isNone=false:=⟨_,Tryz.func108,by kernel_rfl,by kernel_rfl⟩
theorem zwd:∃fn,Tryz.prog.funcs[109]? =some fn∧(fn.name == "runtime.NumGoroutine")=false∧fn.body.isNone=false:=⟨_,Tryz.func109,by kernel_rfl,by kernel_rfl⟩
theorem zwc:∃fn,Tryz.prog.funcs[168]? =some fn∧(fn.name == "runtime.NumGoroutine")=false∧fn.body.isNone=false:=⟨_,Tryz.func168,by kernel_rfl,by kernel_rfl⟩
theorem zwb:∃fn,Tryz.prog.funcs[169]? =some fn∧(fn.name == "runtime.NumGoroutine")=false∧fn.body.isNone=false:=⟨_,Tryz.func169,by kernel_rfl,by kernel_rfl⟩
theorem z1d {cs:St} {b:Nat} {c:List Value} {T:TypeId} {E w:World} (h:RdB cs b T c) (hw:Hs E w cs):∃z,w.heap[b]? =some (.cells ⟨c⟩ T z):=by obtain⟨z,hz⟩:=h.h;exact⟨z,hw.holds _ hz⟩
theorem zuv {pre tail:List Value} {xs ys:List Int} (h:ys.length=xs.length):(putCells (Value.int .i64) pre.length ys.toArray ⟨pre++xs.map (Value.int .i64)++tail⟩).toList=pre++ys.map (Value.int .i64)++tail:=by
 unfold putCells;apply List.ext_getElem?;intro i;simp only [Array.toList_mapIdx,List.getElem?_mapIdx,List.size_toArray];by_cases h1:i<pre.length
 ·rw [JO,JO,JY h1,JY h1];cases pre[i]? with
  | none=>rfl
  | some v=>rw [QW,if_neg (by omega)]
 ·by_cases h2:i<pre.length+ys.length
  ·have e1:(pre++xs.map (Value.int .i64)++tail)[i]? =some (.int .i64 xs[i-pre.length]):=by
    rw [JO,Jk (by omega),JY (by rw [JR];omega),JW,JC (by omega)];rfl
   have e2:(pre++ys.map (Value.int .i64)++tail)[i]? =some (.int .i64 ys[i-pre.length]):=by
    rw [JO,Jk (by omega),JY (by rw [JR];omega),JW,JC (by omega)];rfl
   rw [e1,e2,QW,if_pos (by omega)];have e3:ys.toArray[i-pre.length]! =ys[i-pre.length]:=by
    rw [getElem!_pos ys.toArray _ (by simp;omega)];simp
   rw [e3]
  ·have e1:(pre++xs.map (Value.int .i64)++tail)[i]? =tail[i-pre.length-xs.length]?:=by
    rw [JO,Jk (by omega),Jk (by rw [JR];omega),JR]
   have e2:(pre++ys.map (Value.int .i64)++tail)[i]? =tail[i-pre.length-xs.length]?:=by
    rw [JO,Jk (by omega),Jk (by rw [JR];omega),JR,h]
   rw [e1,e2];cases tail[i-pre.length-xs.length]? with
   | none=>rfl
   | some v=>rw [QW,if_neg (by omega)]
theorem zoz {cs:St} {E w:World} {i b T:Nat} {pre tail:List Value} {xs:List Int} (hi:cs[i]? =some (bk b T (pre++xs.map (Value.int .i64)++tail))) (hw:Hs E w cs):Go.Sort.Holds (Value.int .i64) w b pre.length xs.toArray:=by
 intro j hj;simp only [List.size_toArray]at hj;refine⟨?_,hw.frozen hi (pre.length+j)⟩
 have:=hw.cell hi (o:=pre.length+j)
 rw [show(⟨b,pre.length+j,none⟩:Addr)=ad b (pre.length+j)from rfl,this,JO,Jk (by omega),Nat.add_sub_cancel_left,JY (by rw [JR];exact hj),JW,JC hj];rw [getElem!_pos xs.toArray _ (by simpa using hj)];simp
theorem zoy {cs:St} {E w:World} {i b T k:Nat} {pre tail:List Value} {xs ys:List Int} {os:Array Obj} (hi:cs[i]? =some (bk b T (pre++xs.map (Value.int .i64)++tail))) (hw:Hs E w cs) (h:ys.length=xs.length):
  Hs E (grow (putRow (Value.int .i64) (Go.Sort.ahead w k) b pre.length ys.toArray) os) (cs.set i (bk b T (pre++ys.map (Value.int .i64)++tail))):=by
 have hb:=hw.block hi;have hlt:b<w.heap.size:=by
  rcases Ju b w.heap.size with hh | hh
  ·exact hh
  ·rw [JU hh]at hb;cases hb
 refine hw.upd hi rfl rfl rfl ?_ ?_ (λj hj hj2=> ?_)
 ·simp [grow,putRow,mapBlock,Go.Sort.ahead]
 ·simp only [grow,putRow,mapBlock,Go.Sort.ahead];rw [Array.getElem?_append_left (by simpa using hlt),Array.getElem?_modify,if_pos rfl,hb];simp only [QW,onCells];congr 1
  have:=zuv (pre:=pre) (tail:=tail) h
  congr 1;apply Array.ext';exact this
 ·simp only [grow,putRow,mapBlock,Go.Sort.ahead];rw [Array.getElem?_append_left (by simpa using hj2),Array.getElem?_modify,if_neg (λe=>hj e.symm)]
section
variable {cs:St} {K:Value→SP} {a:Option Addr} {n c:Nat} {l:List Int} {ch:Chunk} {put:Chunk→St}
theorem c108t (r:Row 3 1 a n c zah l ch) (at_:ChAt cs ch put) (hn:n≤1000000000000) (h:∀ch',Row 3 1 a n c zah (l.mergeSort λx y=>decide (x≤y)) ch'→K (.tuple ⟨[]⟩) (put ch')):fn 108 [.slice a n c] K cs:=by
 obtain⟨i,hi,hput⟩:=at_.h;have hl:=r.len;refine⟨zwe,λE w hw=> ?_⟩;rcases r.h.inv with ⟨h1,⟨a0,h2⟩,h3⟩ | ⟨b,cap,pre,tail,h1,h2,h3,h4,h5,h6⟩
 ·cases h2;refine(AnyM.slices_Sort_int_none zrf a 0 w).mono ?_;rintro e w' ⟨rfl,rfl⟩;have e0:l=[]:=List.length_eq_zero_iff.1 hl.symm;subst e0
  have:=h ch (by rw [List.mergeSort_nil];exact r)
  rw [hput,zbt hi]at this;exact⟨_,cs,rfl,hw,this⟩
 ·cases h1;rw [zgg]at h2;rw [h2]at hi;subst hl;have hbl:b<w.heap.size:=by
   have hb:=hw.block hi;rcases Ju b w.heap.size with hh | hh
   ·exact hh
   ·rw [JU hh]at hb;cases hb
  refine(AnyM.slices_Sort_int zrf b pre.length c l w (zoz hi hw) hbl (by omega)).mono ?_;rintro e w' ⟨rfl,k,os,rfl⟩;have hlen:(l.mergeSort λx y=>decide (x≤y)).length=l.length:=List.length_mergeSort l;refine⟨_,_,rfl,zoy hi hw hlen,?_⟩;rw [←hput];refine h _ ⟨?_⟩;rw [zgg]at h3 h4;rw [←zgg];have e1:((l.mergeSort λx y=>decide (x≤y)).flatMap zah.f).length=l.length*1:=by rw [zah.flat_len,hlen]
  exact Sl.mk b l.length c pre _ tail e1 (by rw [e1];rw [JR]at h4;omega) h5 h6
theorem c109t (r:Row 3 1 a n c zah l ch) (at_:ChAt cs ch put) (hn:n≤1000000000000) (h:∀n' ch',Row 3 1 a n' c zah (Lib.compact l) ch'→K (.slice a n' c) (put ch')):fn 109 [.slice a n c] K cs:=by
 obtain⟨i,hi,hput⟩:=at_.h;have hl:=r.len;refine⟨zwd,λE w hw=> ?_⟩;rcases r.h.inv with ⟨h1,⟨a0,h2⟩,h3⟩ | ⟨b,cap,pre,tail,h1,h2,h3,h4,h5,h6⟩
 ·cases h2;refine(Any.slices_Compact_int_empty znx a 0 w).mono ?_;rintro e w' ⟨rfl,rfl⟩;have e0:l=[]:=List.length_eq_zero_iff.1 hl.symm;subst e0
  have:=h 0 ch (by exact r)
  rw [hput,zbt hi]at this;exact⟨_,cs,rfl,hw,this⟩
 ·cases h1;rw [zgg]at h2;rw [h2]at hi;subst hl;refine(Any.slices_Compact_int znx b pre.length c l w (zoz hi hw) (by omega) h5).mono ?_;rintro e w' ⟨rfl,k,rfl⟩;have hcl:(Lib.compact l).length≤l.length:=by
   unfold Lib.compact Lib.compactUpTo;rw [JR];exact Js (QQ _ _) (by rw [List.length_range];exact JG _)
  have hlen:(Lib.compact l++List.replicate (l.length-(Lib.compact l).length) 0).length=l.length:=by rw [JH,QG];omega
  have hh:=zoy (k:=k) (os:= #[]) hi hw hlen;rw [grow_empty]at hh;refine⟨_,_,rfl,hh,?_⟩;rw [←hput];refine h _ _ ⟨?_⟩;rw [zgg]at h3 h4;rw [QL,←JO,←zgg (Lib.compact l),JO (pre++_)];have e1:((Lib.compact l).flatMap zah.f).length=(Lib.compact l).length*1:=zah.flat_len _;refine Sl.mk b (Lib.compact l).length c pre _ _ e1 ?_ (by omega) h6;rw [e1];rw [JR]at h4;simp only [JH,JR,QG];omega
instance c169 {r:Nat}:Go1 (fn 169 [.map (some r)] K cs) (∀q,K (.func (.func 265) ⟨[]⟩ ⟨[.pointer (some (ad q 0))]⟩) (bk q 88 [.map (some r)]::cs)):=⟨λh=>⟨zwb,λE w hw=>by
 have hk:=(callsIn_wide (n:=5)).1 (AnyZI.keys_in zzv Fence.wide 5 trivial rfl (some r) w);refine Calls.mono (R:=λe w'=>e= .returned (.func (.func 265) #[] #[.pointer (some ⟨w.heap.size,0,none⟩)])∧w'=w.alloc (.cells #[.map (some r)] 88)) hk ?_;rintro e w' ⟨rfl,rfl⟩;exact⟨_,_,rfl,hw.alloc _,h w.heap.size⟩⟩⟩
theorem z0z (m:Nat):AnyZI.SortsIn Tryz.prog zia Fence.wide m:=
 ⟨λblk off cap ss W hH hblk hsz=>callsIn_wide.2 (AnyM.slices_Sort_int zrf blk off cap ss W hH hblk hsz),λp cap W=>callsIn_wide.2 (AnyM.slices_Sort_int_none zrf p cap W)⟩
abbrev anyR:Value→Option (DataW Unit×List MemPlace):=λ_=>some (.nil,[])
theorem z2t {a:Int} {v:Value} {x:MapEntry} (hx:x.key= .int .i64 a) (ha:0≤a∧a<9223372036854775808):WideElems.rd Tryz.prog 3 anyR x=some (.int .i64 a,.nil):=by
 have hw:(Lit.int .i64 a).wf=true:=by
  simp only [Lit.wf,JT,JD];have e1:IntKind.min .i64= -9223372036854775808:=by decide
  have e2:IntKind.max .i64=9223372036854775807:=by decide
  rw [e1,e2];omega
 unfold WideElems.rd;rw [hx,Maps.keyOf_int_mk Tryz.underlying3 hw];rfl
theorem zyh {r:Nat} {M:Mp mvI} {E w:World} {i:Nat} (hi:cs[i]? =some (mpC mvI r M)) (hw:Hs E w cs) (hk:∀p∈M.l,0≤p.1∧p.1<9223372036854775808) (hn:M.l.length≤1000000000):
  ∃D0:DataW Unit,w.ownsMap Tryz.prog 3 anyR r M.l.length D0∧(intKeys D0).Perm (M.l.map Prod.fst)∧Maps.size D0=M.l.length:=by
 have hb:=hw.map hi;have hm:=M.is;have hkeys:M.es.toList.map (λx=>x.key)=M.l.map λp=>Value.int .i64 p.1:=by
  have:=congrArg (List.map Prod.fst) hm.eq
  simpa [Qc,Function.comp_def]using this
 have hsz:M.es.size=M.l.length:=by
  have:=congrArg List.length hkeys
  simpa using this
 have hrd:∀x∈M.es.toList,∃a,x.key= .int .i64 a∧WideElems.rd Tryz.prog 3 anyR x=some (.int .i64 a,.nil):=by
  intro x hx;have h1:x.key∈M.es.toList.map (λx=>x.key):=Jt.2 ⟨x,hx,rfl⟩;rw [hkeys]at h1;obtain⟨p,hp,e⟩:=Jt.1 h1;exact⟨p.1,e.symm,z2t (v:= .nilIface) e.symm (hk p hp)⟩
 refine⟨.map ((M.es.toList.map (WideElems.rg Tryz.prog 3 anyR)).foldr DataW.insert []),⟨M.es,M.clk,hb,⟨by rw [hsz];exact Js hn (by decide),hm.st,λx hx=> ?_⟩,by rw [hsz];exact JG _,rfl⟩,?_,?_⟩
 ·obtain⟨a,_,h2⟩:=hrd x hx;exact⟨_,h2⟩
 ·unfold intKeys;dsimp only;refine((WideShapes.sorted_perm _).map _).trans ?_;rw [Qc];have e:M.es.toList.map ((λp:Lit×DataW Unit=>Go.intOf p.1) ∘ WideElems.rg Tryz.prog 3 anyR)=M.l.map Prod.fst:=by
   have e2:M.es.toList.map ((λp:Lit×DataW Unit=>Go.intOf p.1) ∘ WideElems.rg Tryz.prog 3 anyR)=(M.es.toList.map λx=>x.key).map (λv=>match v with | .int _ a=>a | _=>0):=by
    rw [Qc];refine List.map_congr_left λx hx=> ?_;obtain⟨a,h1,h2⟩:=hrd x hx;simp only [Function.comp,WideElems.rg,h2,h1,Option.getD,Go.intOf]
   rw [e2,hkeys,Qc];rfl
  rw [e]
 ·show(List.foldr DataW.insert [] _).length=_;rw [(WideShapes.sorted_perm _).length_eq,JR,Array.length_toList,hsz]
theorem c168t {q r:Nat} {M:Mp mvI} {i:Nat} (rq:RdB cs q 88 [.map (some r)]) (hi:cs[i]? =some (mpC mvI r M)) (hk:∀p∈M.l,0≤p.1∧p.1<9223372036854775808) (hn:M.l.length≤1000000000)
  (h:∀a n c ch (ss:List Int),ss.Perm (M.l.map Prod.fst)→Row 3 1 a n c zah (ss.mergeSort λx y=>decide (x≤y)) ch→K (.slice a n c) (ch::cs)):fn 168 [.func (.func 265) ⟨[]⟩ ⟨[.pointer (some (ad q 0))]⟩] K cs:=⟨zwc,λE w hw=>by
 obtain⟨D0,hown,hperm,hsize⟩:=zyh hi hw hk hn;obtain⟨z0,hq⟩:=z1d rq hw;have hql:q<w.heap.size:=by
  rcases Ju q w.heap.size with hh | hh
  ·exact hh
  ·rw [JU hh]at hq;cases hq
 have hseq:SeqGives Fence.wide 2 Tryz.prog 265 #[.pointer (some ⟨q,0,none⟩)] encZ (λss=>ss.Perm (intKeys D0)) (Maps.size D0) w:=
  AnyZI.keys_gives (ρ:=zk8) {zzv with} Fence.wide _ trivial rfl (by omega) q r M.l.length D0 _ hql (by
   show w.cell? (ad q 0)=_;rw [rq.h.cell hw];rfl) hown
 have cS:=AnyZI.sorted_in zxm Fence.wide 5 trivial trivial trivial trivial rfl (by omega) (z0z _) (enters_of Tryz.func108 (by kernel_rfl) rfl) 265 #[.pointer (some ⟨q,0,none⟩)] trivial (enters_of Tryz.func265 (by kernel_rfl) rfl) _ _ (by rw [hsize];exact Js hn (by decide)) (by rw [hsize];omega) _ hseq;change CallsIn _ _ Tryz.prog 168 _ _ _ at cS;refine Calls.mono (callsIn_wide.1 cS) ?_;rintro e w' ⟨v,ss,rfl,hS,hrow,hnil,hb⟩;have hlt:∀x∈cs.flatten,x.1<w.heap.size:=λx hx=>by
  have h3:=hw.holds x hx;rcases Ju x.1 w.heap.size with hh | hh
  ·exact hh
  ·rw [JU hh]at h3;cases h3
 have hbase:Hs E w' cs:=⟨hb.os.trans hw.os,hb.output.trans hw.out,hb.tape.trans hw.tape,Js hw.size hb.size,λx hx=>by rw [hb.block x.1 (hlt x hx)];exact hw.holds x hx,hw.nodup⟩;have hP:=hS.trans hperm;have hml:(ss.mergeSort λx y=>decide (x≤y)).length=ss.length:=List.length_mergeSort ss;rcases hrow.2 with ⟨rfl,hz⟩ | ⟨g,cap,cur,rfl,hgb,g1,g2,g3,g4,g5⟩
 ·have hss:ss=[]:=List.eq_nil_of_length_eq_zero hz;subst hss
  have:=h none 0 0 [] [] hP ⟨by rw [List.mergeSort_nil];exact Sl.nil⟩
  exact⟨_,[]::cs,rfl,⟨hbase.os,hbase.out,hbase.tape,hbase.size,by simpa using hbase.holds,by simpa using hbase.nodup⟩,this⟩
 ·refine⟨_,bk g 3 cur.toList::cs,rfl,⟨hbase.os,hbase.out,hbase.tape,hbase.size,λx hx=> ?_,?_⟩,h _ _ _ _ ss hP ⟨?_⟩⟩
  ·simp only [JV,JX,bk,Jg]at hx;rcases hx with rfl | hx
   ·exact g1
   ·exact hbase.holds x hx
  ·simp only [JV,bk,JI,JF,Jf,List.nodup_cons];refine⟨λhm=> ?_,hbase.nodup⟩;obtain⟨x,hx,e⟩:=Jt.1 hm
   have:=hlt x hx
   omega
  ·have e1:(ss.mergeSort λx y=>decide (x≤y)).flatMap zah.f=cur.toList.take (ss.length*1):=by rw [zgg,g5]
   rw [e1];have e2:cur.toList=[]++cur.toList.take (ss.length*1)++cur.toList.drop (ss.length*1):=by rw [JF,Jx]
   have hl1:(cur.toList.take (ss.length*1)).length=ss.length*1:=by simp only [Jh,Array.length_toList,g4];omega
   have hl2:(cur.toList.drop (ss.length*1)).length=cap*1-ss.length*1:=by simp only [Jb,Array.length_toList,g4]
   have:=Sl.mk (T:=3) (sz:=1) g ss.length cap [] (cur.toList.take (ss.length*1)) (cur.toList.drop (ss.length*1)) hl1 (by rw [hl1,hl2];omega) g2 (Js g3 (by decide))
   rw [←e2]at this;exact this⟩
end
end Go.Proofs.YtbjlfobjngogkaaGreatDoor
namespace Go.Proofs.YtbjlfobjngogkaaGreatDoor
open Go
set_option synthInstance.maxSize 100000
set_option synthInstance.maxHeartbeats 1000000
set_option maxRecDepth 100000
theorem Ob.fnf {X:Type} {C:Nat→X→Chunk} {cs:St} {b:Nat} {x:X} {put:Chunk→St} (o:Ob C cs b x put) {g:FuncId} {args:List Value} {K:Value→SP} (parts:St) (hp:parts.flatten=C b x)
  (h:∀F,Go.Proofs.YtbjlfobjngogkaaGreatDoor.fn g args (λv c=>∃front parts',Imp c (front++(parts'++F))∧K v (front++put parts'.flatten)) (parts++F)):Go.Proofs.YtbjlfobjngogkaaGreatDoor.fn g args K cs:=by
 obtain⟨i,h1,h2⟩:=o.h;refine zfu i parts (by rw [hp];exact h1) ?_;refine zdd (λv c ⟨front,q1,h3,h4⟩=>⟨front,q1,h3,?_⟩) (h (cs.set i []));rw [h2]at h4;exact h4
theorem zns:∀(l m:List Int),l.Perm m→l.Pairwise (·≤·)→m.Pairwise (·≤·)→l=m
 | [],m,hp,_,_=>(List.nil_perm.1 hp).symm
 | a::l,m,hp,h1,h2=>by
  cases m with
  | nil=>exact absurd hp.length_eq (by simp)
  | cons b m=>
   rw [List.pairwise_cons]at h1 h2;have e:a=b:=by
    have ha:a∈b::m:=hp.mem_iff.1 QE;have hb:b∈a::l:=hp.mem_iff.2 QE;rcases Jp.1 ha with e | ha
    ·exact e
    ·rcases Jp.1 hb with e | hb
     ·exact e.symm
     ·have:=h2.1 a ha;have:=h1.1 b hb;omega
   subst e;rw [zns l m (List.Perm.cons_inv hp) h1.2 h2.2]
theorem zkb (x y:Int):∀l:List Int,y∈zcp x l→y=x∨y∈l
 | [],h=>by simp [zcp]at h;exact .inl h
 | z::l,h=>by
  unfold zcp at h;split at h
  ·rcases Jp.1 h with e | h
   ·exact .inl e
   ·exact .inr h
  ·rcases Jp.1 h with e | h
   ·exact .inr (by simp [e])
   ·rcases zkb x y l h with e | h
    ·exact .inl e
    ·exact .inr (Jo _ h)
theorem zf2 (x:Int):∀l:List Int,l.Pairwise (·≤·)→(zcp x l).Pairwise (·≤·)
 | [],_=>by simp [zcp]
 | y::l,h=>by
  unfold zcp;split
  ·rename_i c;rw [List.pairwise_cons];refine⟨λz hz=> ?_,h⟩;rcases Jp.1 hz with e | hz
   ·omega
   ·have:=(List.pairwise_cons.1 h).1 z hz;omega
  ·rename_i c;rw [List.pairwise_cons]at h ⊢;refine⟨λz hz=> ?_,zf2 x l h.2⟩;rcases zkb x z l hz with e | hz
   ·omega
   ·exact h.1 z hz
theorem zh9:∀l:List Int,(sortI l).Pairwise (·≤·)
 | []=>List.Pairwise.nil
 | x::l=>zf2 x _ (zh9 l)
theorem zhb (x:Int):∀l:List Int,(zcp x l).Perm (x::l)
 | []=>List.Perm.refl _
 | y::l=>by
  unfold zcp;split
  ·exact List.Perm.refl _
  ·exact((zhb x l).cons y).trans (List.Perm.swap _ _ _)
theorem zjn:∀l:List Int,(sortI l).Perm l
 | []=>List.Perm.refl _
 | x::l=>(zhb x _).trans ((zjn l).cons x)
theorem zoq (l:List Int):(l.mergeSort λx y=>decide (x≤y)).Pairwise (·≤·):=by
 have:=List.pairwise_mergeSort (le:=λ(x y:Int)=>decide (x≤y)) (λa b c h1 h2=>by simp at *;omega) (λa b=>by simp;omega) l
 exact this.imp λh=>by simpa using h
theorem z1u (x:SlX) {ss:List Int} (hp:ss.Perm (x.M.l.map Prod.fst)):(ss.mergeSort λa b=>decide (a≤b))=x.m.live:=by
 refine zns _ _ ?_ (zoq ss) (zh9 _);refine(List.mergeSort_perm ss _).trans (hp.trans (List.Perm.trans ?_ (zjn _).symm));have nd2:(x.who.filter λa=>a != -1).Nodup:=by
  have key:∀l:List Int,(∀i j:Nat,∀a,l[i]? =some a→l[j]? =some a→a≠-1→i=j)→(l.filter λa=>a != -1).Nodup:=by
   intro l
   induction l with
   | nil=>intro _;exact List.nodup_nil
   | cons a l ih=>
    intro hh;have ihl:=ih λi j b h1 h2 hb=>by
     have:=hh (i+1) (j+1) b (by simpa using h1) (by simpa using h2) hb;omega
    rw [List.filter_cons];split
    ·rename_i c;rw [List.nodup_cons];refine⟨λhm=> ?_,ihl⟩;have hm:=(QN.1 hm).1;obtain⟨j,hj,e⟩:=List.mem_iff_getElem.1 hm
     have:=hh 0 (j+1) a rfl (by rw [Qi,JC hj,e]) (by simpa using c)
     omega
    ·exact ihl
  refine key x.who λi j a h1 h2 ha=> ?_;have d1:x.who.getD i 0=a:=by rw [JA,h1];rfl
  have d2:x.who.getD j 0=a:=by rw [JA,h2];rfl
  have e1:=x.at1 i (zaa h1) (by rw [d1];exact ha);have e2:=x.at1 j (zaa h2) (by rw [d2];exact ha);rw [d1]at e1;rw [d2]at e2;rw [e1]at e2
  have:=JQ e2
  omega
 refine(List.perm_ext_iff_of_nodup x.nd nd2).2 λa=>⟨λh=> ?_,λh=> ?_⟩
 ·obtain⟨p,hp,e⟩:=Jt.1 h;have hg:=zkc x.nd (k:=p.1) (x:=p.2) hp;obtain⟨a1,a2,a3⟩:=x.at2 _ _ hg;have ai:=(x.hid _ _ hg).1;have hl:p.2.toNat<x.who.length:=by omega
  rw [QN];rw [←e];refine⟨?_,by simp;omega⟩;rw [←a3,JA,JC hl];exact Jq hl
 ·obtain⟨h1,h2⟩:=QN.1 h;obtain⟨j,hj,e⟩:=List.mem_iff_getElem.1 h1;have d1:x.who.getD j 0=a:=by rw [JA,JC hj];exact e
  have e1:=x.at1 j hj (by rw [d1];simpa using h2);rw [d1]at e1;exact Jt.2 ⟨_,zr7 e1,rfl⟩
instance c98 {cs:St} {b:Nat} {x:SlX} {put:Chunk→St} {K:Value→SP} [o:Ob za4 cs b x put]:Go1 (fn 98 [.pointer (some (ad b 0))] K cs) (∀a n c ch,Row 3 1 a n c zah x.m.live ch→K (.slice a n c) (ch::cs)):=⟨λh=>o.fnf [slP b x,bk x.bw 3 (List.map (Value.int .i64) x.who),mpC mvI x.bm x.M] (by simp [za4]) λF=>f98 (by
 have hs:=o.same;have hh1:=x.h1;have hcn:=x.cnt;unfold s98;simp only [JI,JF];refine go λq=> ?_;refine c168t (r:=x.bm) (M:=x.M) (i:=3) inferInstance rfl (λp hp=> ?_) (by omega) λa n c ch ss hp r=> ?_
 ·have hg:=zkc x.nd (k:=p.1) (x:=p.2) hp;have h1:=x.hid _ _ hg;have h2:=x.hn;omega
 ·rw [z1u x hp]at r;refine go ⟨[ch],[slP b x,bk x.bw 3 (List.map (Value.int .i64) x.who),mpC mvI x.bm x.M],?_,?_⟩
  ·simp only [JI,JF];exact drp
  ·have e:[slP b x,bk x.bw 3 (List.map (Value.int .i64) x.who),mpC mvI x.bm x.M].flatten=za4 b x:=by simp [za4]
   rw [e,hs];exact h a n c ch r)⟩
theorem perm3 (s A B:Chunk):(A++(s++B)).Perm (s++(A++B)):=by
 rw [←JO,←JO];exact List.Perm.append_right _ List.perm_append_comm
theorem zsu {l:List (Option SeatH)} {k:Nat} (h:l[k]? =some none) (s:SeatH):(zav (l.set k (some s))).Perm (seatC s++zav l):=by
 have hl:=zaa h;have e1:zav (l.set k (some s))=zav (l.take k)++(seatC s++zav (l.drop (k+1))):=by
  rw [List.set_eq_take_append_cons_drop,if_pos hl];simp [zav,soC]
 have e2:zav l=zav (l.take k)++zav (l.drop (k+1)):=by
  have:l.set k none=l:=by
   apply List.ext_getElem?;intro i;rw [Jy];split
   ·rename_i hi;subst hi;exact h.symm
   ·rfl
  have e3:=zla hl;rw [this]at e3;exact e3
 rw [e1,e2];exact perm3 _ _ _
theorem zkv {l:List (Option SeatH)} {k:Nat} (h:l[k]? =some none) (s:SeatH) {F:St}:Imp (seatC s::zav l::F) (zav (l.set k (some s))::F):=Imp.of_sub (l:=[]) (by
 simp only [JV,Jj];rw [←JO];exact List.Perm.append_right _ (zsu h s))
theorem En.free_get (x:En) (h:x.m.slots.free≠0):x.seats[x.m.slots.first]? =some none:=by
 obtain⟨f1,f2⟩:=zcw h;rw [x.ok.l2]at f1;have h1:x.m.seats[x.m.slots.first]? =some none:=by
  rw [←x.ok.w,JW]at f2;cases hs:x.m.seats[x.m.slots.first]? with
  | none=>rw [hs]at f2;simp at f2
  | some o=>cases o with
   | none=>rfl
   | some y=>
    rw [hs]at f2
    have:=(x.ok.nx _ _ (zao.2 hs)).1
    simp [zdl]at f2;omega
 rw [←x.r4,JW]at h1;cases hs:x.seats[x.m.slots.first]? with
 | none=>rw [hs]at h1;simp at h1
 | some o=>cases o with
  | none=>rfl
  | some y=>rw [hs]at h1;simp at h1
section
variable {cs:St} {b:Nat} {x:En} {put:Chunk→St} {K:Value→SP}
instance c146 [o:Ob engC cs b x put] {n:Int}:Go1 (fn 146 [.pointer (some (ad b 0)),.int .i64 n] K cs) (K (.int .i64 (x.m.refused n)) cs):=⟨λh=>o.fn (zak b x) rfl λF=>f146 (by
 have dk:∀{c:St} {t:Int},t=x.m.refused n→Imp c (zak b x++F)→∃parts',Imp c (parts'++F)∧K (.int .i64 t) (put parts'.flatten):=λe hi=>eKeep o (e▸h) hi;obtain⟨L,h2,h3,h4⟩:=x.scs.r.h;have hn:=h2.len;have hl:x.m.scripts.length=x.scs.n:=by rw [←x.r0,←h3,JR,hn]
 have hsub:∀(G:St),∀z∈([x.scs.ch]:St).flatten,z∈(bk b 174 (zba x)::x.scs.ch::G).flatten:=λG z hz=>by
  simp only [JV,List.flatten_nil,Jj,JX]at hz ⊢;exact .inr (.inl hz)
 simp only [zak,JI,JF]at dk ⊢;have rw1:Rw 45 4 (bk b 174 (zba x)::x.scs.ch::za4 x.slb x.slx::x.srch::za3 x.tb x.tx::hpC x.hb x.hx::mpC mvI x.mr x.M::x.och::zav x.seats::F) x.scs.a x.scs.n x.scs.c encPr L:=⟨h2.sub (hsub _)⟩;unfold s146;unfold Eng.refused at dk;refine go ?_;simp only [JD,JB,ge_iff_le];refine⟨λc1=>dk (by rw [if_pos (.inl c1)]) (Imp.refl _),λc1=>⟨λc2=>dk (by rw [if_pos (.inr (by omega))]) (Imp.refl _),λc2=>⟨by omega,λy hy=> ?_⟩⟩⟩;have hyp:x.m.scripts[n.toNat]? =some y.1:=by rw [←x.r0,←h3,JW,hy];rfl
 have hyd:x.m.scripts.getD n.toNat PrM.zero=y.1:=by rw [JA,hyp];rfl
 rw [if_neg (by omega),hyd]at dk;have rp:PrR (bk b 174 (zba x)::x.scs.ch::za4 x.slb x.slx::x.srch::za3 x.tb x.tx::hpC x.hb x.hx::mpC mvI x.mr x.M::x.och::zav x.seats::F) (za9 y.1 y.2.1 y.2.2.1 y.2.2.2) y.1:=(h4 y (JN hy)).sub (hsub _);have e1:x.slx.next=x.m.slots.next:=by rw [←x.r1]
 have e2:x.slx.m.free=x.m.slots.free:=by rw [x.r1]
 refine go ⟨x.ok.sc _ (JN hyp),?_⟩;simp only [JD,JB,Jc,Jl,Jd,JL,ne_eq,ge_iff_le];refine⟨λc3=>dk (by rw [if_pos c3]) (Imp.refl _),λc3=>⟨λc4=>dk (by rw [if_neg (by simp [c3]),if_pos c4]) (Imp.refl _),λc4=>⟨λc5=>dk ?_ (Imp.refl _),λc5=>⟨λc6=>dk ?_ (Imp.refl _),λc6=>dk ?_ (Imp.refl _)⟩⟩⟩⟩
 ·rw [if_neg (by simp [c3]),if_neg (by simp [c4]),if_pos (by omega)]
 ·rw [if_neg (by simp [c3]),if_neg (by simp [c4]),if_neg (by omega),if_pos (by omega)]
 ·rw [if_neg (by simp [c3]),if_neg (by simp [c4]),if_neg (by omega),if_neg (by omega)])⟩
instance c88 [o:Ob engC cs b x put] {n:Int}:Go1 (fn 88 [.pointer (some (ad b 0)),.int .i64 n] K cs) (x.m.out.length<1000000000000∧∀x',En.m x'=x.m.open n→K undef (put (engC b x'))):=⟨λ⟨hl,h⟩=>o.fn (zak b x) rfl λF=>f88 (by
 obtain⟨L,h2,h3,h4⟩:=x.scs.r.h;have hn:=h2.len;have hln:x.m.scripts.length=x.scs.n:=by rw [←x.r0,←h3,JR,hn]
 unfold s88;refine zaj eShut ?_;refine go ⟨λc1=> ?_,λc1=> ?_⟩
 ·have hr:x.m.refused n≠0:=by simpa using c1
  have hop:x.m.open n={x.m with slots:=x.m.slots.skip,out:=x.m.out++[zbz x.m.slots.skipped n (x.m.refused n)]}:=by unfold Eng.open;rw [if_pos hr]
  have hok:=zt4 x.ok (zbz x.m.slots.skipped n (x.m.refused n));refine zaj (cs':=zak b x++F) eLay ?_;simp only [zak,JI,JF];refine go λsl' g1 g2=> ?_;have e1:sl'.m=x.m.slots.skip:=by rw [g1,x.r1]
  have e2:x.slx.m.skipped=x.m.slots.skipped:=by rw [x.r1]
  rw [e2]
  let x1:En:={x with m:={x.m with slots:=x.m.slots.skip},slx:=sl',r1:=e1,ok:={hok with}}
  refine zaj (cs':=engC b x1::F) (Imp.trans (by dsimp only [zak,zba,x1,List.cons_append,List.nil_append];exact drp) (eShut (x:=x1))) ?_;refine go ⟨hl,λx2 hx2 _=> ?_⟩;refine eDone x2 (Imp.refl _) (h x2 ?_);rw [hx2,hop];rfl
 ·have hr:x.m.refused n=0:=by simpa using c1
  obtain⟨r1,r2,r3,r4,r5⟩:=zb6 hr;have hok:=zg2 x.ok hr;have hfr:=x.free_get r5;have hop:x.m.open n=({x.m with slots:=x.m.slots.open,seats:=x.m.seats.set x.m.slots.first (some ⟨x.m.slots.next,Dia.new x.m.s (x.m.scripts.getD n.toNat PrM.zero) x.m.clock,[],false⟩),out:=x.m.out++[za5 x.m.slots.next n]}:Eng).settle x.m.slots.first:=by unfold Eng.open;rw [if_neg (by simp [hr])]
  refine zaj (cs':=zak b x++F) eLay ?_;simp only [zak,JI,JF];have e3:x.slx.next=x.m.slots.next:=by rw [←x.r1]
  have e4:x.slx.who=x.m.slots.who:=by rw [←x.r1]
  have e5:x.slx.m.first=x.m.slots.first:=by rw [x.r1]
  have hmem:(-1:Int)∈x.slx.who:=by rw [e4];exact JN (zcw r5).2
  have hsub:∀(A:Chunk) (G:St),∀z∈([x.scs.ch]:St).flatten,z∈(A::x.scs.ch::G).flatten:=λA G z hz=>by
   simp only [JV,List.flatten_nil,Jj,JX]at hz ⊢;exact .inr (.inl hz)
  have hr1:=x.srow;have hn1:=x.srow.len;rw [JR]at hn1;have hfl:=zaa hfr;have hcl:=x.ok.c1;refine go ⟨⟨by rw [e3];exact r4,hmem⟩,λsl' g1 g2=> ?_⟩;have e6:sl'.m=x.m.slots.open:=by rw [g1,x.r1]
  have rw1:Rw 45 4 (bk b 174 (zba x)::x.scs.ch::za4 x.slb sl'::x.srch::za3 x.tb x.tx::hpC x.hb x.hx::mpC mvI x.mr x.M::x.och::zav x.seats::F) x.scs.a x.scs.n x.scs.c encPr L:=⟨h2.sub (hsub _ _)⟩;refine go ⟨⟨by omega,by omega⟩,λy hy=> ?_⟩;have hyp:x.m.scripts[n.toNat]? =some y.1:=by rw [←x.r0,←h3,JW,hy];rfl
  have hyd:x.m.scripts.getD n.toNat PrM.zero=y.1:=by rw [JA,hyp];rfl
  rw [hyd]at r2 hok hop;have rp:PrR (bk b 174 (zba x)::x.scs.ch::za4 x.slb sl'::x.srch::za3 x.tb x.tx::hpC x.hb x.hx::mpC mvI x.mr x.M::x.och::zav x.seats::F) (za9 y.1 y.2.1 y.2.2.1 y.2.2.2) y.1:=(h4 y (JN hy)).sub (hsub _ _);have hfit:=x.ok.sc _ (JN hyp);refine go ⟨⟨x.ok.sg,r2,hfit,by omega⟩,λdb dl hdl=> ?_⟩;rw [e5];refine go λwb wi w1 w2 sb=>⟨⟨by omega,by omega⟩,some (ad sb 0),rfl,λch' r' M1 hM1=> ?_⟩;rw [e3];rw [JE]at r'
  let s0:SeatH:=⟨x.m.slots.next,sb,db,wb,dl,wi⟩
  have hs0:s0.m=⟨x.m.slots.next,Dia.new x.m.s y.1 x.m.clock,[],false⟩:=by
   show(⟨x.m.slots.next,dl.d,wi.q,wi.eof⟩:Seat)=_;rw [hdl,w1,w2]
  rw [←hs0]at hok hop;have emap:(x.seats.set x.m.slots.first (some s0)).map ptrS=(x.seats.map ptrS).set x.m.slots.first (some (ad sb 0)):=by rw [List.map_set];rfl
  let x1:En:={x with m:={x.m with slots:=x.m.slots.open,seats:=x.m.seats.set x.m.slots.first (some s0.m)},slx:=sl',srch:=ch',seats:=x.seats.set x.m.slots.first (some s0),M:=M1,srow:=by rw [emap];exact r',r1:=e6,r4:=by simp only [List.map_set,x.r4];rfl,ok:={hok with}}
  have hsc:Imp (bk sb 197 [.int .i64 x.m.slots.next,.pointer (some (ad db 0)),.pointer (some (ad wb 0))]::wireC wb wi::dialC db dl::bk b 174 (zba x)::x.scs.ch::za4 x.slb sl'::ch'::za3 x.tb x.tx::hpC x.hb x.hx::mpC mvI x.mr M1::x.och::zav x.seats::F) (seatC s0::zav x.seats::bk b 174 (zba x)::x.scs.ch::za4 x.slb sl'::ch'::za3 x.tb x.tx::hpC x.hb x.hx::mpC mvI x.mr M1::x.och::F):=by
   unfold seatC;exact drp
  refine zaj (cs':=engC b x1::F) (Imp.trans (hsc.trans (zkv hfr s0)) (Imp.trans (by dsimp only [zak,zba,x1,List.cons_append,List.nil_append];exact drp) (eShut (x:=x1)))) ?_;refine go ⟨hl,λx2 hx2 hs2=> ?_⟩;have hg2:x2.seats[x.m.slots.first]? =some (some s0):=by rw [hs2];show(x.seats.set _ _)[_]? =_;simp [hfl]
  refine go ⟨⟨by omega,s0,by rw [JE];exact hg2⟩,λx3 hx3 _=> ?_⟩;rw [JE]at hx3;refine eDone x3 (Imp.refl _) (h x3 ?_);rw [hx3,hx2,hop];rfl)⟩
instance c90 [o:Ob engC cs b x put] {id:Int} {s:ByteArray} {e:Bool}:Go1 (fn 90 [.pointer (some (ad b 0)),.agg ⟨[.int .i64 id,.string s,.bool e]⟩] K cs) ((∀k y,x.m.seat k=some y→y.q.length≤1000000000000)∧∀x',En.m x'=x.m.offer ⟨id,s,e⟩→K undef (put (engC b x'))):=⟨λ⟨hq,h⟩=>o.fn (zak b x) rfl λF=>f90 (by
 unfold s90;simp only [zak,JI,JF];refine go λb1=> ?_;refine zaj (cs':=engC b x::bk b1 85 [.int .i64 id,.string s,.bool e]::F) (Imp.trans (by dsimp only [zak,List.cons_append,List.nil_append];exact drp) (eShut (x:=x))) ?_;refine go ⟨λhs=> ?_,λk sh hs hg hid=> ?_⟩
 ·have:x.m.offer ⟨id,s,e⟩=x.m:=by unfold Eng.offer;simp only [hs]
  rw [this]at h;exact eDone x drp (h x rfl)
 ·have hseat:x.m.seat k=some sh.m:=x.seat_iff.2 ⟨sh,hg,rfl⟩;have hof:x.m.offer ⟨id,s,e⟩=if sh.m.eof=true∨4096<s.size then x.m else x.m.setSeat k (some {sh.m with q:=sh.m.q++s.data.toList,eof:=e}):=by unfold Eng.offer;simp only [hs,hseat]
  have rd:RdB (engC b x::bk b1 85 [.int .i64 id,.string s,.bool e]::F) sh.sb 197 (zib sh):=⟨by
   have:engC b x=(eFoc b x k sh).flatten:=(zdg hg).symm
   rw [this];exact Rd.in (i:=0) rfl (by simp [bk])⟩
  refine go ?_;refine zaj (cs':=eFoc b x k sh++(bk b1 85 [.int .i64 id,.string s,.bool e]::F)) (eLayF hg) ?_;simp only [eFoc,JI,JF];have hqq:=hq k _ hseat;refine go ⟨λhc=> ?_,λ⟨hc1,hc2⟩=>⟨hqq,λwi' w1 w2=> ?_⟩⟩
  ·rw [if_pos (by exact hc)]at hof;rw [hof]at h;refine eDone x (Imp.trans ?_ (zen hg)) (h x rfl);dsimp only [eFoc,List.cons_append,List.nil_append];exact drp
  ·rw [if_neg (by show¬(sh.wi.eof=true∨_);simp [hc1];omega)]at hof;have hok:(x.m.setSeat k (some ({sh with wi:=wi'}:SeatH).m)).Ok:=zaq (y:=({sh with wi:=wi'}:SeatH).m) x.ok hseat rfl (x.ok.dO k sh.m hseat);have hm:({sh with wi:=wi'}:SeatH).m={sh.m with q:=sh.m.q++s.data.toList,eof:=e}:=by
    show(⟨sh.id,sh.dl.d,wi'.q,wi'.eof⟩:Seat)=_;rw [w1,w2];rfl
   refine eDone (x.upS k sh {sh with wi:=wi'} hg rfl hok) (Imp.trans ?_ (zc7 (s':={sh with wi:=wi'}) hg rfl hok)) (h _ ?_)
   ·dsimp only [eFoc,List.cons_append,List.nil_append];exact drp
   ·rw [hof,←hm];rfl)⟩
instance c96 [o:Ob engC cs b x put] {t id:Int}:Go1 (fn 96 [.pointer (some (ad b 0)),.agg ⟨[.int .i64 t,.int .i64 id]⟩] K cs) ((0≤id∧∃s,x.seats[id.toNat]? =some (some s))∧∀x',En.m x'=x.m.settle id.toNat→x'.seats=x.seats→K undef (put (engC b x'))):=⟨λ⟨hs,h⟩=>up0 (f96 (by
 unfold s96;refine go λb1=>⟨hs,λx' h1 h2=>fin (h x' h1 h2)⟩))⟩
theorem zj4 (e:Eng) (k:Nat):e.out.length≤(e.step k).2.out.length:=by
 unfold Eng.step;cases e.seat k with
 | none=>exact JG _
 | some x=>
  dsimp only;cases x.d.step e.clock with
  | none=>dsimp only;split <;>exact JG _
  | some y=>dsimp only;split <;>simp [Eng.tell,Eng.setSeat,Eng.gone]
theorem zg5 (t:Int) (now:Bool) (e:Eng) (id:Int):e.out.length≤(e.cut1 t now id).out.length:=by
 unfold Eng.cut1;cases e.slots.slot id with
 | none=>exact JG _
 | some k=>
  dsimp only;cases e.seat k with
  | none=>exact JG _
  | some x=>
   dsimp only;have h1:=zj4 (e.setSeat k (some {x with d:=x.d.cut t})) k;split
   ·rw [zbc];exact JG _
   ·split
    ·rw [zbc];exact h1
    ·exact h1
theorem zbu {α:Type} {f:Eng→α→Eng} (hf:∀e a,e.out.length≤(f e a).out.length):∀(l:List α) (e:Eng),e.out.length≤(l.foldl f e).out.length
 | [],_=>JG _
 | a::l,e=>Js (hf e a) (zbu hf l _)
instance c154 [o:Ob engC cs b x put] {t:Int} {now:Bool}:Go1 (fn 154 [.pointer (some (ad b 0)),.int .i64 t,.bool now] K cs) ((x.m.cut t now).out.length<1000000000000∧∀x',En.m x'=x.m.cut t now→K undef (put (engC b x'))):=⟨λ⟨hl,h⟩=>o.fn (zak b x) rfl λF=>f154 (by
 unfold Eng.cut at hl h;have hl0:=zbu (zg5 t now) x.m.slots.live {x.m with drains:=true,out:=x.m.out++[zbb t]};simp only [JH,JP]at hl0;unfold s154;simp only [zak,JI,JF];refine go ?_
 let x1:En:={x with m:={x.m with drains:=true},ok:={x.ok with}}
 refine zaj (cs':=engC b x1::F) (Imp.trans (by dsimp only [zak,zba,x1,List.cons_append,List.nil_append];exact drp) (eShut (x:=x1))) ?_;have hx1:x1.m.out.length<1000000000000:=by show x.m.out.length<_;omega
 refine go ⟨hx1,λx2 hx2 hs2=> ?_⟩;refine zaj (cs':=zak b x2++F) eLay ?_;simp only [zak,JI,JF];refine go λal nl cl chl rl=> ?_;have el:x2.slx.m.live=x.m.slots.live:=by rw [x2.r1,hx2];rfl
 rw [el]at rl;have hnl:=rl.len;have el2:x2.m.slots.live=x.m.slots.live:=by rw [hx2];rfl
 have hnd:=x.ok.live_nodup;have em2:x2.m={x.m with drains:=true,out:=x.m.out++[zbb t]}:=by rw [hx2];rfl
 refine lp (λy:Nat×En=>[.int .i64 y.1]) (λy=>chl::engC b y.2::F) (λy=>y.1≤nl∧(x.m.slots.live.drop y.1).foldl (Eng.cut1 t now) y.2.m=x.m.slots.live.foldl (Eng.cut1 t now) {x.m with drains:=true,out:=x.m.out++[zbb t]}∧∀id∈x.m.slots.live.drop y.1,y.2.m.sits id) (λy=>nl-y.1)
  (0,x2) rfl (Imp.trans (by dsimp only [zak,List.cons_append,List.nil_append];exact drp) (Imp.trans (eShut (b:=b) (x:=x2) (F:=chl::F)) drp)) ⟨JJ _,by rw [Jm,em2],λid hid=>x2.ok.sits_iff.1 (by rw [←el2]at hid;exact hid)⟩ ?_
 rintro⟨i,xi⟩ ⟨i1,i2,i3⟩;dsimp only at *;refine go ?_;simp only [JD,JB,JE,id];refine⟨λc0=>⟨by omega,λid hid=> ?_⟩,λc0=> ?_⟩
 ·have hil:=zaa hid;have ed:x.m.slots.live.drop i=id::x.m.slots.live.drop (i+1):=by
   rw [JM hil];rw [JC hil]at hid;rw [JQ hid]
  rw [ed]at i2 i3;rw [Ji]at i2;have hnd2:(id::x.m.slots.live.drop (i+1)).Nodup:=by rw [←ed];exact hnd.sublist (List.drop_sublist _ _)
  rw [List.nodup_cons]at hnd2;obtain⟨k,y,hk,hyid⟩:=i3 id (by simp);have hslot:=xi.ok.slot_of hk;rw [hyid]at hslot;obtain⟨sh,hg,hm⟩:=xi.seat_iff.1 hk;have hl1:(xi.m.cut1 t now id).out.length<1000000000000:=by
   have:=zbu (zg5 t now) (x.m.slots.live.drop (i+1)) (xi.m.cut1 t now id)
   rw [i2]at this;omega
  have hl2:=zg5 t now xi.m id;have hle:=x.ok.live_le;rw [zae (by omega)];have nx:∀(xn:En) (cx:St),xn.m=xi.m.cut1 t now id→Imp cx (chl::engC b xn::F)→∃x':Nat×En,[Value.int IntKind.i64 ((i+1:Nat):Int)]=[Value.int IntKind.i64 (x'.1:Int)]∧Imp cx (chl::engC b x'.2::F)∧(x'.1≤nl∧(x.m.slots.live.drop x'.1).foldl (Eng.cut1 t now) x'.2.m=x.m.slots.live.foldl (Eng.cut1 t now) {x.m with drains:=true,out:=x.m.out++[zbb t]}∧∀id∈x.m.slots.live.drop x'.1,x'.2.m.sits id)∧nl-x'.1<nl-i:=by
   intro xn cx hxn hi;refine⟨(i+1,xn),rfl,hi,⟨by omega,by rw [hxn];exact i2,λid' hid'=> ?_⟩,by simp only;omega⟩;rw [hxn];exact ztl xi.ok t now (λe=>hnd2.1 (by rw [←e];exact hid')) (i3 id' (Jo _ hid'))
  refine⟨λhs=>absurd hs (by rw [hslot];simp),λk' sh' hs hg' hid'=> ?_⟩;rw [hslot]at hs;cases hs;rw [hg]at hg';cases hg';have rd:RdB (chl::engC b xi::F) sh.sb 197 (zib sh):=⟨by
   have:engC b xi=(eFoc b xi k sh).flatten:=(zdg hg).symm
   rw [this];exact Rd.in (i:=1) rfl (by simp [bk])⟩
  obtain⟨d1,d2,d4⟩:=xi.ok.dO _ _ hk;have hc:=zbv sh.dl.d t;subst hm;refine go ?_;refine zaj (cs':=eFoc b xi k sh++(chl::F)) (Imp.trans drp (eLayF (b:=b) hg)) ?_;simp only [JI,JF];refine go λdl' hdl=> ?_;have hok:(xi.m.setSeat k (some ({sh with dl:=dl'}:SeatH).m)).Ok:=zaq (y:=({sh with dl:=dl'}:SeatH).m) xi.ok hk rfl ⟨dl'.ok,by show dl'.d.s=_;rw [hdl];exact hc.1.trans d2,by show dl'.d.now≤_;rw [hdl,hc.2.2];exact d4⟩;have hm2:({sh with dl:=dl'}:SeatH).m={sh.m with d:=sh.m.d.cut t}:=by
   show(⟨sh.id,dl'.d,_,_⟩:Seat)=_;rw [hdl];rfl
  let xs:En:=xi.upS k sh {sh with dl:=dl'} hg rfl hok
  have hgs:xs.seats[k]? =some (some {sh with dl:=dl'}):=ztu;have hcut:xi.m.cut1 t now id=if now=false then xs.m.settle k else if(xs.m.step k).1 then(xs.m.step k).2.settle k else(xs.m.step k).2:=by
   unfold Eng.cut1;rw [hslot];dsimp only;rw [hk];dsimp only;rw [←hm2];rfl
  have hxo:xs.m.out.length<1000000000000:=by show xi.m.out.length<_;omega
  have toC:Imp (bk b 174 (zba xi)::xi.scs.ch::za4 xi.slb xi.slx::xi.srch::za3 xi.tb xi.tx::hpC xi.hb xi.hx::mpC mvI xi.mr xi.M::xi.och::zav (xi.seats.take k)::bk sh.sb 197 (zib sh)::dialC sh.db dl'::wireC sh.wb sh.wi::zav (xi.seats.drop (k+1))::chl::F) (engC b xs::chl::F):=zc7 (s':={sh with dl:=dl'}) hg rfl hok;refine⟨λc1=> ?_,λc1=> ?_⟩
  ·have c1':now=false:=by simpa using c1
   rw [if_pos c1']at hcut;refine zaj (cs':=engC b xs::chl::F) toC ?_;refine go ⟨⟨by omega,_,by rw [JE];exact hgs⟩,λx3 hx3 hs3=> ?_⟩;exact nx x3 _ (by rw [hx3,hcut,JE]) drp
  ·have c1':¬now=false:=by simpa using c1
   rw [if_neg c1']at hcut;refine zaj (cs':=engC b xs::chl::F) toC ?_;refine go ⟨k,_,⟨rfl,hgs,hxo⟩,λx3 hx3 hs3=>⟨λc2=> ?_,λc2=> ?_⟩⟩
   ·obtain⟨s',hs',_⟩:=hs3 c2;rw [if_pos c2]at hcut;refine go ⟨⟨by omega,s',by rw [JE,hs'];simp [zaa hgs]⟩,λx4 hx4 hs4=> ?_⟩;exact nx x4 _ (by rw [hx4,hx3,hcut,JE]) drp
   ·rw [if_neg (by simp [c2])]at hcut;exact nx x3 _ (by rw [hx3,hcut]) drp
 ·have ed:x.m.slots.live.drop i=[]:=Je (by omega);rw [ed]at i2;exact eDone xi drp (h xi i2))⟩
end
section
variable {cs:St} {b:Nat} {x:En} {put:Chunk→St} {K:Value→SP}
instance c91 [o:Ob engC cs b x put] {t dr:Int} {ab:Bool} {a1 a2 a3:Option Addr} {n1 n2 n3 c1 c2 c3:Nat}:Go1 (fn 91 [.pointer (some (ad b 0)),.agg ⟨[.int .i64 t,.slice a1 n1 c1,.slice a2 n2 c2,.slice a3 n3 c3,.int .i64 dr,.bool ab]⟩] K cs)
  ((dr≤never∧(x.m.drain ⟨0,[],[],[],dr,ab⟩).out.length<1000000000000)∧∀x',En.m x'=x.m.drain ⟨0,[],[],[],dr,ab⟩→K undef (put (engC b x'))):=⟨λ⟨⟨hd,hl⟩,h⟩=>up0 (f91 (by
 have hnv:=nev;have hcl:=x.ok.c1;have ho:=o.same;unfold s91;unfold Eng.drain at hl h;simp only at hl h;have none_:∀{c:St},¬(ab=true∧x.m.stopped=false)→¬(ab=false∧dr>0∧x.m.drains=false)→Imp c cs→Up K undef c:=by
  intro c h1 h2 hi;rw [if_neg h1,if_neg h2]at h
  have:=h x rfl
  rw [ho]at this;exact⟨_,hi,this⟩
 refine go λb1=> ?_;have w1:dr>0→w64 (dr-1)=dr-1:=λhh=>zad (by omega);simp only [gt_iff_lt,JD,JB,Jc,Jl];refine⟨λc1=>⟨λc2=>⟨?_,λx' hx'=> ?_⟩,λc2=>⟨λc3=>absurd c1 (by rw [c3];decide),λc3=>none_ (λhh=>by rw [c2]at hh;exact absurd hh.2 (by decide)) (λhh=>by rw [c1]at hh;exact absurd hh.1 (by decide)) drp⟩⟩,λc1=>⟨λc2=>⟨λc3=>⟨λc4=>⟨⟨by omega,by rw [w1 c3];omega⟩,?_,λx' hx'=> ?_⟩,λc4=>none_ (λhh=>by rw [c1]at hh;exact absurd hh.1 (by decide)) (λhh=>by rw [c4]at hh;exact absurd hh.2.2 (by decide)) drp⟩,λc3=>none_ (λhh=>by rw [c1]at hh;exact absurd hh.1 (by decide)) (λhh=>c3 hh.2.1) drp⟩,λc2=>absurd c1 (by rw [c2];decide)⟩⟩
 ·rw [if_pos ⟨c1,c2⟩]at hl;exact hl
 ·rw [if_pos ⟨c1,c2⟩]at h;exact fin (h x' hx')
 ·rw [if_neg (by simp [c1]),if_pos ⟨c1,c3,c4⟩]at hl;rw [w1 c3];exact hl
 ·rw [if_neg (by simp [c1]),if_pos ⟨c1,c3,c4⟩]at h;rw [w1 c3]at hx';exact fin (h x' hx')))⟩
theorem zb2 {e:Eng} {k:Nat} {y:Seat} (h:e.seat k=some y):e.setSeat k (some y)=e:=by
 unfold Eng.setSeat
 have:e.seats.set k (some y)=e.seats:=by
  apply List.ext_getElem?;intro i;rw [Jy];split
  ·rename_i hi;subst hi
   have:=zao.1 h
   rw [this,if_pos (zpz h)]
  ·rfl
 rw [this]
theorem zny {l:List (Option SeatH)} {k:Nat} {s:SeatH} (h:l[k]? =some (some s)):l.set k (some s)=l:=by
 apply List.ext_getElem?;intro i;rw [Jy];split
 ·rename_i hi;subst hi;rw [if_pos (zaa h)];exact h.symm
 ·rfl
theorem zyz (l:List UInt8):((sb l).toList == (bs []).toList)=decide (l=[]):=by
 rw [size0,zp0];cases l <;>simp
def Eng.read1 (e:Eng) (k:Nat) (x:Seat):Eng:=if x.reads=[]then e else(e.setSeat k (some x.read1)).tell (zd0 x.id ⟨⟨x.reads⟩⟩)
def Seat.got (x:Seat):Seat:=if x.reads=[]then x else x.read1
theorem zey {e:Eng} {k:Nat} {x:Seat} (hk:e.seat k=some x) (h0:x.d.room≠0):e.read k=if x.got.over&&(x.got.d.runs&& !x.got.d.eof)then((e.read1 k x).setSeat k (some {x.got with d:=x.got.d.ends})).tell (evEof x.id)else e.read1 k x:=by
 unfold Eng.read;rw [hk];dsimp only;rw [if_neg h0];rfl
theorem zro {e:Eng} (h:e.Ok) {k:Nat} {x:Seat} (hk:e.seat k=some x):(e.read1 k x).Ok∧(e.read1 k x).seat k=some x.got:=by
 unfold Eng.read1 Seat.got;obtain⟨d1,d2,d4⟩:=h.dO _ _ hk;have hp:=zcs x.d (x.q.take x.d.room);split
 ·exact⟨h,hk⟩
 ·refine⟨zd6 (zaq (y:=x.read1) h hk rfl ⟨zob d1 _,hp.1.trans d2,by show(x.d.put _).now≤_;rw [hp.2.2];exact d4⟩) _,?_⟩;exact(zag hk _ k).trans (if_pos rfl)
theorem z0c (x:Seat):x.got.id=x.id:=by unfold Seat.got;split <;>rfl
theorem zln (e:Eng) (k:Nat) (x:Seat):e.out.length≤(e.read1 k x).out.length:=by
 unfold Eng.read1;split
 ·exact JG _
 ·simp [Eng.tell,Eng.setSeat]
theorem zwf {d:Dia} (h:(d.runs&& !d.eof)=false):d.ends=d:=by
 unfold Dia.ends;cases hr:d.runs with
 | false=>rfl
 | true=>
  rw [hr]at h;have he:d.eof=true:=by simpa using h
  rw [if_pos rfl,←he]
theorem zmf {l:List (Option SeatH)} {k:Nat} (a c:Option SeatH):(l.set k a).set k c=l.set k c:=List.set_set ..
instance c155 [o:Ob engC cs b x put] {sb_:Nat}:Go1 (fn 155 [.pointer (some (ad b 0)),.pointer (some (ad sb_ 0))] K cs)
  (∃(k:Nat) (s:SeatH),(x.seats[k]? =some (some s)∧sb_=s.sb∧x.m.out.length<999999999999∧s.wi.q.length≤1000000000000)∧∀x' s',En.m x'=x.m.read k→x'.seats=x.seats.set k (some s')→s'.sb=s.sb→s'.db=s.db→s'.wb=s.wb→K undef (put (engC b x'))):=⟨λ⟨k,s,⟨hs,hsb,hl,hq⟩,h⟩=>by
 subst hsb;refine o.fn (eFoc b x k s) (zdg hs) λF=>f155 ?_;have hseat:x.m.seat k=some s.m:=x.seat_iff.2 ⟨s,hs,rfl⟩;have hlt:=zaa hs;obtain⟨d1,d2,d4⟩:=x.ok.dO _ _ hseat;simp only [JI,JF];unfold s155;refine go ⟨λc1=> ?_,λc1=> ?_⟩
 ·have h0:s.dl.d.room=0:=by simpa using c1
  have:x.m.read k=x.m:=by unfold Eng.read;rw [hseat];dsimp only;rw [if_pos (show s.m.d.room=0 from h0)]
  rw [this]at h;refine eDone x (Imp.trans ?_ (zen hs)) (h x s rfl (zny hs).symm rfl rfl rfl);dsimp only [eFoc,List.cons_append,List.nil_append];exact drp
 ·have h0:s.m.d.room≠0:=by have:¬s.dl.d.room=0:=(by simpa using c1);exact this
  have hre:=zey hseat h0;obtain⟨ok1,seat1⟩:=zro x.ok hseat;have hm1:=zln x.m k s.m;refine⟨λl cx=>∃(x1:En) (s1:SeatH),x1.m=x.m.read1 k s.m∧s1.m=s.m.got∧x1.seats=x.seats.set k (some s1)∧s1.sb=s.sb∧s1.db=s.db∧s1.wb=s.wb∧x1.m.out.length<1000000000000∧Imp cx (eFoc b x1 k s1++F),?_,?_⟩
  ·rintro l cx ⟨x1,s1,e1,e2,e3,e4,e5,e6,e7,hi⟩;refine⟨_,hi,?_⟩;simp only [JI,JF];have hg1:x1.seats[k]? =some (some s1):=by rw [e3];simp [hlt]
   have hseat1:x1.m.seat k=some s1.m:=x1.seat_iff.2 ⟨s1,hg1,rfl⟩;rw [←e4];have hov:s1.m.over=(s1.wi.eof&&s1.wi.q.isEmpty):=rfl;rw [←e2]at hre;obtain⟨q1,q2,q4⟩:=x1.ok.dO _ _ hseat1;have he:=zcl s1.dl.d;refine go ⟨λc1 dl' hdl=>⟨λc2=> ?_,λc2=> ?_⟩,λc1=> ?_⟩
   ·have hok:(x1.m.setSeat k (some ({s1 with dl:=dl'}:SeatH).m)).Ok:=zaq (y:=({s1 with dl:=dl'}:SeatH).m) x1.ok hseat1 rfl ⟨dl'.ok,by show dl'.d.s=_;rw [hdl];exact he.1.trans q2,by show dl'.d.now≤_;rw [hdl,he.2.2];exact q4⟩;have hm2:({s1 with dl:=dl'}:SeatH).m={s1.m with d:=s1.m.d.ends}:=by
     show(⟨s1.id,dl'.d,_,_⟩:Seat)=_;rw [hdl];rfl
    rw [if_pos (by rw [hov,c1];exact c2)]at hre;refine zaj (cs':=engC b (x1.upS k s1 {s1 with dl:=dl'} hg1 rfl hok)::F) (zc7 (s':={s1 with dl:=dl'}) hg1 rfl hok) ?_;refine go ⟨e7,λx3 hx3 hs3=> ?_⟩;refine eDone x3 (Imp.refl _) (h x3 {s1 with dl:=dl'} ?_ ?_ e4 e5 e6)
    ·rw [hx3,hre,←hm2,←e1]
     have:s.m.id=s1.id:=by rw [←z0c s.m,←e2];rfl
     rw [this];rfl
    ·rw [hs3];show x1.seats.set k _=_;rw [e3,zmf]
   ·have hes:=zwf c2;rw [hes]at hdl;have hm2:({s1 with dl:=dl'}:SeatH).m=s1.m:=by
     show(⟨s1.id,dl'.d,_,_⟩:Seat)=_;rw [hdl];rfl
    have hok:(x1.m.setSeat k (some ({s1 with dl:=dl'}:SeatH).m)).Ok:=by rw [hm2,zb2 hseat1];exact x1.ok
    rw [if_neg (by rw [hov,c1];have c3:(s1.m.d.runs&& !s1.m.d.eof)=false:=c2;rw [c3];decide)]at hre;refine eDone (x1.upS k s1 {s1 with dl:=dl'} hg1 rfl hok) (Imp.trans ?_ (zc7 (s':={s1 with dl:=dl'}) hg1 rfl hok)) (h _ {s1 with dl:=dl'} ?_ ?_ e4 e5 e6)
    ·dsimp only [eFoc,List.cons_append,List.nil_append];exact drp
    ·rw [hre];show x1.m.setSeat k (some ({s1 with dl:=dl'}:SeatH).m)=_;rw [hm2,zb2 hseat1,e1]
    ·show x1.seats.set k _=_;rw [e3,zmf]
   ·rw [if_neg (by rw [hov,c1];simp)]at hre;refine eDone x1 (Imp.trans ?_ (zen hg1)) (h x1 s1 ?_ e3 e4 e5 e6)
    ·dsimp only [eFoc,List.cons_append,List.nil_append];exact drp
    ·rw [hre,e1]
  ·have emin:(min (s.dl.d.room:Int).toNat s.wi.q.length)=min s.dl.d.room s.wi.q.length:=by rw [JE]
   have hrd:s.m.reads=s.wi.q.take (min s.dl.d.room s.wi.q.length):=by
    show s.wi.q.take s.dl.d.room=_;rw [List.take_eq_take_iff];omega
   have hdp:s.wi.q.drop (min s.dl.d.room s.wi.q.length)=s.wi.q.drop s.dl.d.room:=by
    by_cases hle:s.dl.d.room≤s.wi.q.length
    ·rw [Nat.min_eq_left hle]
    ·rw [Nat.min_eq_right (by omega),Je (JG _),Je (by omega)]
   have hp:=zcs s.dl.d s.m.reads;refine go ⟨hq,λwi' w1 w2=> ?_⟩;rw [emin,hdp]at w1;rw [emin,←hrd];simp only [zyz];refine⟨λc2 dl' hdl=> ?_,λc2=> ?_⟩
   ·have hne:¬s.m.reads=[]:=by simpa using c2
    let s1:SeatH:={s with dl:=dl',wi:=wi'}
    have hs1:s1.m=s.m.read1:=by
     show(⟨s.id,dl'.d,wi'.q,wi'.eof⟩:Seat)=⟨s.id,s.dl.d.put s.m.reads,s.wi.q.drop s.dl.d.room,s.wi.eof⟩;rw [hdl,w1,w2];rfl
    have hok:(x.m.setSeat k (some s1.m)).Ok:=zaq (y:=s1.m) x.ok hseat rfl ⟨dl'.ok,by show dl'.d.s=_;rw [hdl];exact hp.1.trans d2,by show dl'.d.now≤_;rw [hdl];exact(show(s.dl.d.put s.m.reads).now≤_ by rw [hp.2.2];exact d4)⟩;have hr1:x.m.read1 k s.m=(x.m.setSeat k (some s1.m)).tell (zd0 s.id ⟨⟨s.m.reads⟩⟩):=by unfold Eng.read1;rw [if_neg hne,hs1];rfl
    refine zaj (cs':=engC b (x.upS k s s1 hs rfl hok)::F) (zc7 (s':=s1) hs rfl hok) ?_;refine go ⟨by show x.m.out.length<_;omega,λx2 hx2 hs2=> ?_⟩;have hs3:x2.seats=x.seats.set k (some s1):=hs2;refine⟨x2,s1,?_,?_,hs3,rfl,rfl,rfl,?_,?_⟩
    ·rw [hx2,hr1];rfl
    ·rw [hs1];unfold Seat.got;rw [if_neg hne]
    ·rw [hx2];show(x.m.out++[_]).length<_;simp;omega
    ·exact eLayF (by rw [hs3];simp [hlt])
   ·have hne:s.m.reads=[]:=by simpa using c2
    let s1:SeatH:={s with wi:=wi'}
    have hqe:s.wi.q=[]:=by
     have hh:s.wi.q.take s.dl.d.room=[]:=hne;have hr0:s.dl.d.room≠0:=h0;cases hq0:s.wi.q with
     | nil=>rfl
     | cons a l=>rw [hq0]at hh;obtain⟨r,hr⟩:=Nat.exists_eq_succ_of_ne_zero hr0;rw [hr]at hh;simp at hh
    have hs1:s1.m=s.m:=by
     show(⟨s.id,s.dl.d,wi'.q,wi'.eof⟩:Seat)=⟨s.id,s.dl.d,s.wi.q,s.wi.eof⟩;rw [w1,w2,hqe];simp
    have hok:(x.m.setSeat k (some s1.m)).Ok:=by rw [hs1,zb2 hseat];exact x.ok
    refine⟨x.upS k s s1 hs rfl hok,s1,?_,?_,rfl,rfl,rfl,rfl,?_,?_⟩
    ·show x.m.setSeat k (some s1.m)=_;rw [hs1,zb2 hseat];unfold Eng.read1;rw [if_pos hne]
    ·rw [hs1];unfold Seat.got;rw [if_pos hne]
    ·show x.m.out.length<_;omega
    ·rw [ztv];dsimp only [eFoc,List.cons_append,List.nil_append];exact drp⟩
instance c156 [o:Ob engC cs b x put] {sb_:Nat} {n:Int}:Go1 (fn 156 [.pointer (some (ad b 0)),.pointer (some (ad sb_ 0)),.int .i64 n] K cs)
  (∃(k:Nat) (s:SeatH),(x.seats[k]? =some (some s)∧sb_=s.sb∧x.m.out.length<1000000000000)∧∀x' s',En.m x'=x.m.write k n→x'.seats=x.seats.set k (some s')→s'.sb=s.sb→s'.db=s.db→s'.wb=s.wb→K undef (put (engC b x'))):=⟨λ⟨k,s,⟨hs,hsb,hl⟩,h⟩=>by
 subst hsb;refine o.fn (eFoc b x k s) (zdg hs) λF=>f156 ?_;have hseat:x.m.seat k=some s.m:=x.seat_iff.2 ⟨s,hs,rfl⟩;have hlt:=zaa hs;obtain⟨d1,d2,d4⟩:=x.ok.dO _ _ hseat;have ht:=zcf s.dl.d n;have hw:x.m.write k n=if(s.dl.d.taken n).size=0 then x.m.setSeat k (some {s.m with d:=s.m.d.take n})else(x.m.setSeat k (some {s.m with d:=s.m.d.take n})).tell (zdf s.id (s.dl.d.taken n)):=by
  unfold Eng.write;rw [hseat];rfl
 simp only [JI,JF];unfold s156;refine go λdl' hdl=> ?_;have hm2:({s with dl:=dl'}:SeatH).m={s.m with d:=s.m.d.take n}:=by
  show(⟨s.id,dl'.d,_,_⟩:Seat)=_;rw [hdl];rfl
 have hok:(x.m.setSeat k (some ({s with dl:=dl'}:SeatH).m)).Ok:=zaq (y:=({s with dl:=dl'}:SeatH).m) x.ok hseat rfl ⟨dl'.ok,by show dl'.d.s=_;rw [hdl];exact ht.1.trans d2,by show dl'.d.now≤_;rw [hdl,ht.2.2];exact d4⟩;rw [←hm2]at hw;simp only [size0];refine⟨λc1=> ?_,λc1=> ?_⟩
 ·rw [if_neg (by simpa using c1)]at hw;refine zaj (cs':=engC b (x.upS k s {s with dl:=dl'} hs rfl hok)::F) (zc7 (s':={s with dl:=dl'}) hs rfl hok) ?_;refine go ⟨hl,λx2 hx2 hs2=> ?_⟩;refine eDone x2 (Imp.refl _) (h x2 {s with dl:=dl'} ?_ hs2 rfl rfl rfl);rw [hx2,hw];rfl
 ·rw [if_pos (by simpa using c1)]at hw;refine eDone (x.upS k s {s with dl:=dl'} hs rfl hok) (Imp.trans ?_ (zc7 (s':={s with dl:=dl'}) hs rfl hok)) (h _ {s with dl:=dl'} ?_ rfl rfl rfl rfl)
  ·dsimp only [eFoc,List.cons_append,List.nil_append];exact drp
  ·rw [hw];rfl⟩
theorem zon (e:Eng) (k:Nat):e.out.length≤(e.read k).out.length:=by
 cases hk:e.seat k with
 | none=>unfold Eng.read;rw [hk];exact JG _
 | some x=>
  by_cases h0:x.d.room=0
  ·unfold Eng.read;rw [hk];dsimp only;rw [if_pos h0];exact JG _
  ·rw [zey hk h0]
   have:=zln e k x
   split
   ·simp only [Eng.tell,Eng.setSeat,JH,JP];omega
   ·exact this
theorem zlm (e:Eng) (k:Nat) (n:Int):e.out.length≤(e.write k n).out.length:=by
 unfold Eng.write;cases e.seat k with
 | none=>exact JG _
 | some x=>dsimp only;split <;>simp [Eng.tell,Eng.setSeat]
theorem z0n (e:Eng) (k:Nat):(e.read k).out.length≤e.out.length+2:=by
 cases hk:e.seat k with
 | none=>unfold Eng.read;rw [hk];simp
 | some x=>
  by_cases h0:x.d.room=0
  ·unfold Eng.read;rw [hk];dsimp only;rw [if_pos h0];omega
  ·rw [zey hk h0]
   have:(e.read1 k x).out.length≤e.out.length+1:=by
    unfold Eng.read1;split
    ·omega
    ·simp [Eng.tell,Eng.setSeat]
   split
   ·simp only [Eng.tell,Eng.setSeat,JH,JP];omega
   ·omega
instance c93 [o:Ob engC cs b x put] {id ac:Int} {r w:Bool}:Go1 (fn 93 [.pointer (some (ad b 0)),.agg ⟨[.int .i64 id,.bool r,.bool w,.int .i64 ac]⟩] K cs)
  ((x.m.out.length<999999999990∧(∀k y,x.m.seat k=some y→y.q.length≤1000000000000))∧∀x',En.m x'=x.m.report ⟨id,r,w,ac⟩→K undef (put (engC b x'))):=⟨λ⟨⟨hl,hq⟩,h⟩=>o.fn (zak b x) rfl λF=>f93 (by
 unfold s93;have hon:=x.orow.len;simp only [zak,JI,JF];refine go λb1=> ?_;refine zaj (cs':=engC b x::bk b1 87 [.int .i64 id,.bool r,.bool w,.int .i64 ac]::F) (Imp.trans (by dsimp only [zak,List.cons_append,List.nil_append];exact drp) (eShut (b:=b) (x:=x))) ?_;refine go ⟨λhs=>⟨λ_=> ?_,λc0=>absurd c0 (by decide)⟩,λk sh hs hg hid=>⟨λc0=>absurd c0 (by decide),λ_=> ?_⟩⟩
 ·have:x.m.report ⟨id,r,w,ac⟩=x.m:=by unfold Eng.report;simp only [hs]
  rw [this]at h;exact eDone x drp (h x rfl)
 ·have hseat:x.m.seat k=some sh.m:=x.seat_iff.2 ⟨sh,hg,rfl⟩;have hlt:=zaa hg;have hre:x.m.report ⟨id,r,w,ac⟩=if(x.m.reported ⟨id,r,w,ac⟩ k).out.length>x.m.out.length then(x.m.reported ⟨id,r,w,ac⟩ k).settle k else x.m.reported ⟨id,r,w,ac⟩ k:=by unfold Eng.report;simp only [hs]
  refine⟨λl cx=>∃(x1:En) (s1:SeatH),x1.m=(if r then x.m.read k else x.m)∧x1.seats=x.seats.set k (some s1)∧s1.sb=sh.sb∧Imp cx (engC b x1::bk b1 87 [.int .i64 id,.bool r,.bool w,.int .i64 ac]::F),?_,?_⟩
  ·rintro l cx ⟨x1,s1,e1,e2,e3,hi⟩;have hg1:x1.seats[k]? =some (some s1):=by rw [e2];simp [hlt]
   have hl1:x1.m.out.length<1000000000000:=by
    rw [e1];have:=z0n x.m k;split <;>omega
   refine⟨_,hi,?_⟩;refine⟨λl cx=>∃(x2:En) (s2:SeatH),x2.m=x.m.reported ⟨id,r,w,ac⟩ k∧x2.seats=x.seats.set k (some s2)∧Imp cx (engC b x2::bk b1 87 [.int .i64 id,.bool r,.bool w,.int .i64 ac]::F),?_,?_⟩
   ·rintro l cx ⟨x2,s2,g1,g2,hi2⟩;refine⟨_,hi2,?_⟩;have hon2:=x2.orow.len;have hg2:x2.seats[k]? =some (some s2):=by rw [g2];simp [hlt]
    rw [←g1]at hre;refine go ?_;simp only [JD,JB,gt_iff_lt];refine⟨λc1=>⟨⟨by omega,s2,by rw [JE];exact hg2⟩,λx3 hx3 _=> ?_⟩,λc1=> ?_⟩
    ·rw [if_pos (by omega)]at hre;rw [JE]at hx3;exact eDone x3 drp (h x3 (by rw [hx3,hre]))
    ·rw [if_neg (by omega)]at hre;exact eDone x2 drp (h x2 (by rw [hre]))
   ·rw [←e3];refine go ⟨λc1=>⟨k,s1,⟨hg1,rfl,hl1⟩,λx2 s2 g1 g2 g3 g4 g5=>⟨x2,s2,?_,?_,drp⟩⟩,λc1=>⟨x1,s1,?_,e2,Imp.refl _⟩⟩
    ·rw [g1,e1];unfold Eng.reported;simp only [c1,if_true]
    ·rw [g2,e2,zmf]
    ·rw [e1];unfold Eng.reported;simp only [c1,QA,if_false]
  ·refine go ⟨λc1=>⟨k,sh,⟨hg,rfl,by omega,hq k _ hseat⟩,λx1 s1 g1 g2 g3 g4 g5=>⟨x1,s1,by rw [g1,c1];rfl,g2,g3,drp⟩⟩,λc1=>⟨x,sh,by rw [c1];rfl,(zny hg).symm,rfl,Imp.refl _⟩⟩)⟩
theorem zh2:∀(f:Nat) (e:Eng) (k:Nat),e.out.length≤(Eng.spend f e k).2.out.length
 | 0,_,_=>JG _
 | f+1,e,k=>by
  rw [Eng.spend];cases e.seat k with
  | none=>exact JG _
  | some x=>
   dsimp only;split
   ·split
    ·have h1:=zj4 {e with turns:=(e.turns.pay x.d.price).1} k;split
     ·exact Js h1 (zh2 f _ k)
     ·exact h1
    ·exact JG _
   ·exact JG _
theorem ziq (e:Eng) (k:Nat):(e.rest k).out=e.out:=by unfold Eng.rest;cases e.seat k <;>rfl
theorem zod {d:Dia} (h:d.Ok) (hr:d.status=0):1≤d.price∧d.price≤10000:=by
 have hg:=zal h.sg;unfold Dia.price Dia.runs;rw [hr];simp only [BEq.rfl,if_true];unfold price some';rw [if_neg (by rw [h.sg];decide)];split
 ·omega
 ·split <;>omega
theorem zya {t:Turns} {p:Int} (h:(t.pay p).2=true) (hp:1≤p):t.who≠-1∧p≤t.has.getD t.who.toNat 0∧(t.pay p).1={t with has:=t.has.set t.who.toNat (t.has.getD t.who.toNat 0-p)}:=by
 unfold Turns.pay at h ⊢;split at h
 ·cases h
 ·split at h
  ·cases h
  ·rename_i h1 h2;have e:max p 0=p:=by omega
   rw [if_neg h1,if_neg h2,e];rw [e]at h2;exact⟨h1,by omega,rfl⟩
instance c97 [o:Ob engC cs b x put]:Go1 (fn 97 [.pointer (some (ad b 0))] K cs)
  (x.m.turn.2.out.length<1000000000000∧∀x',En.m x'=x.m.turn.2→K (.bool x.m.turn.1) (put (engC b x'))):=⟨λ⟨hl,h⟩=>o.fn (zak b x) rfl λF=>f97 (by
 unfold s97;simp only [zak,JI,JF];have hr:=x.srow;have hn:=x.srow.len;rw [JR]at hn;have er2:x.tx.m.begin=x.m.turns.begin:=by rw [x.r2]
 refine go ⟨λhb=>⟨λ_=> ?_,λc0=>absurd c0 (by decide)⟩,λk hb tx' htx=>⟨λc0=>absurd c0 (by decide),λ_=> ?_⟩⟩
 ·rw [er2]at hb
  have:x.m.turn=(false,x.m):=by unfold Eng.turn;rw [hb]
  rw [this]at h;refine eDone x (Imp.trans ?_ eShut) (h x rfl);dsimp only [zak,List.cons_append,List.nil_append];exact drp
 ·rw [er2]at hb htx;obtain⟨hok0,y0,hy0⟩:=zhh x.ok hb;obtain⟨s,hs,hsm⟩:=x.seat_iff.1 hy0;subst hsm;have hlt:=zaa hs
  let x0:En:={x with m:={x.m with turns:=x.m.turns.begin.1},tx:=tx',r2:=htx,ok:=hok0}
  have hturn:x.m.turn=if(Eng.spend ((x.m.turns.begin.1.has.getD k 0).toNat+1) x0.m k).1 then(true,(Eng.spend ((x.m.turns.begin.1.has.getD k 0).toNat+1) x0.m k).2.rest k)else(true,(Eng.spend ((x.m.turns.begin.1.has.getD k 0).toNat+1) x0.m k).2):=by unfold Eng.turn;rw [hb]
  generalize hS:Eng.spend ((x.m.turns.begin.1.has.getD k 0).toNat+1) x0.m k=S at *;have hwho:x0.m.turns.who=k:=(zgi hb x.ok.tn).2.2.2.2.1;have hSl:S.2.out.length<1000000000000:=by
   rw [hturn]at hl;split at hl
   ·rw [ziq]at hl;exact hl
   ·exact hl
  refine⟨⟨by omega,by omega⟩,λp hp=> ?_⟩;rw [JE,JW,hs]at hp;cases hp;simp only [ptrS,QW,id];have toC0:Imp (bk b 174 (zba x)::x.scs.ch::za4 x.slb x.slx::x.srch::za3 x.tb tx'::hpC x.hb x.hx::mpC mvI x.mr x.M::x.och::zav x.seats::F) (engC b x0::F):=eShut (x:=x0);refine⟨λl cx=>∃(xi:En) (si:SeatH),xi.seats[k]? =some (some si)∧si.sb=s.sb∧S=(true,xi.m)∧Imp cx (engC b xi::F),?_,?_⟩
  ·rintro l cx ⟨xi,si,hg,hsb,hSi,hi⟩;refine⟨_,hi.trans (eLayF hg),?_⟩;simp only [JI,JF];rw [←hsb];have hseat:xi.m.seat k=some si.m:=xi.seat_iff.2 ⟨si,hg,rfl⟩;have hkl:=xi.ok.lt hseat;have htl:=xi.r3.cns.tl;have h4:=xi.ok.l4;have hwk:xi.m.turns.who=k:=by
    have:=zjl ((x.m.turns.begin.1.has.getD k 0).toNat+1) x0.m k (by rw [hS,hSi])
    rw [hS,hSi]at this;rw [this];exact hwho
   have hrok:=zul xi.ok k hwk;have hre:xi.m.rest k={xi.m with turns:=xi.m.turns.fin (si.dl.d.ready xi.m.clock),tm:=tmSet xi.m.tm k si.dl.d.next}:=by unfold Eng.rest;rw [hseat];rfl
   rw [hSi,if_pos rfl]at hturn;rw [hturn]at h;rw [hre]at h hrok;refine go λtx2 r2 q1=>⟨xi.m.tm,⟨⟨by omega,by omega⟩,zqa _⟩,xi.r3,λw' g1 g2 r3=> ?_⟩;rw [xi.r2]at q1;rw [JE]at g1
   let x3:En:={xi with m:={xi.m with turns:=xi.m.turns.fin (si.dl.d.ready xi.m.clock),tm:=tmSet xi.m.tm k si.dl.d.next},hx:=w',tx:=tx2,r3:=g1,r2:=q1,ok:=hrok}
   refine eDone x3 (Imp.trans ?_ (zen (x:=x3) (k:=k) (s:=si) hg)) (h x3 rfl);dsimp only [x3,eFoc,zba,List.cons_append,List.nil_append];exact drp
  ·refine lp (λ_:En×SeatH×Nat=>[]) (λy=>engC b y.1::F) (λy=>y.1.seats[k]? =some (some y.2.1)∧y.2.1.sb=s.sb∧Eng.spend y.2.2 y.1.m k=S∧(y.1.m.turns.has.getD k 0).toNat<y.2.2∧y.1.m.turns.who=k) (λy=>y.2.2)
    (x0,s,(x.m.turns.begin.1.has.getD k 0).toNat+1) rfl toC0 ⟨hs,rfl,hS,Nat.lt_succ_self _,hwho⟩ ?_
   rintro⟨xi,si,f⟩ ⟨hg,hsb,hSi,hf,hwi⟩;dsimp only at *;obtain⟨f',rfl⟩:∃f',f=f'+1:=⟨f-1,by omega⟩;have hseat:xi.m.seat k=some si.m:=xi.seat_iff.2 ⟨si,hg,rfl⟩;have hlti:=zaa hg;rw [Eng.spend,hseat]at hSi;dsimp only at hSi;rw [←hsb];have rd:RdB (engC b xi::F) si.sb 197 (zib si):=⟨by
    have:engC b xi=(eFoc b xi k si).flatten:=(zdg hg).symm
    rw [this];exact Rd.in (i:=0) rfl (by simp [bk])⟩
   refine⟨λl cx=>∃xj:En,xj.seats=xi.seats∧si.dl.d.ready xi.m.clock=true∧(xi.m.turns.pay si.dl.d.price).2=true∧xj.m={xi.m with turns:=(xi.m.turns.pay si.dl.d.price).1}∧Imp cx (engC b xj::F),?_,?_⟩
   ·rintro l cx ⟨xj,j1,j2,j3,j4,hi⟩;refine⟨_,hi,?_⟩;have hgj:xj.seats[k]? =some (some si):=by rw [j1];exact hg
    rw [if_pos (show si.m.d.ready xi.m.clock=true from j2),if_pos (show(xi.m.turns.pay si.m.d.price).2=true from j3)]at hSi;rw [show({xi.m with turns:=(xi.m.turns.pay si.m.d.price).1}:Eng)=xj.m from j4.symm]at hSi;have hpp:=zod si.dl.ok (zfg j2);obtain⟨p1,p2,p3⟩:=zya j3 hpp.1;have hwj:xj.m.turns.who=k:=by rw [j4];show(xi.m.turns.pay _).1.who=_;rw [(zp3 _ _).1,hwi]
    have hm:=zj4 xj.m k;have hlj:xj.m.out.length<1000000000000:=by
     split at hSi
     ·have:=zh2 f' (xj.m.step k).2 k;rw [hSi]at this;omega
     ·rw [←hSi]at hSl;simp only at hSl;omega
    refine go ⟨k,si,⟨rfl,hgj,hlj⟩,λx2 hx2 hs2=>⟨λc1=> ?_,λc1=> ?_⟩⟩
    ·have c1':(xj.m.step k).1=false:=by simpa using c1
     rw [if_neg (by simp [c1'])]at hSi;rw [←hSi,if_neg (by simp)]at hturn;rw [hturn]at h;exact eDone x2 (Imp.refl _) (h x2 hx2)
    ·have c1':(xj.m.step k).1=true:=by simpa using c1
     rw [if_pos c1']at hSi;obtain⟨s',q1,q2,q3,q4⟩:=hs2 c1';refine⟨(x2,s',f'),rfl,Imp.refl _,⟨?_,?_,?_,?_,?_⟩,by simp only;omega⟩
     ·show x2.seats[k]? =_;rw [q1];simp [zaa hgj]
     ·show s'.sb=_;rw [q2,hsb]
     ·show Eng.spend f' x2.m k=S;rw [hx2];exact hSi
     ·show(x2.m.turns.has.getD k 0).toNat<f';rw [hx2,zhp c1',j4];show((xi.m.turns.pay _).1.has.getD k 0).toNat<f';rw [p3];have hwt:xi.m.turns.who.toNat=k:=by rw [hwi];rfl
      rw [hwt]at p2;simp only [hwt];have hkl:k<xi.m.turns.has.length:=by
       rcases Ju k xi.m.turns.has.length with hh | hh
       ·exact hh
       ·rw [JA,QB hh]at p2;simp at p2;omega
      rw [JA,QR hkl];simp only [Qd];omega
     ·show x2.m.turns.who=k;rw [hx2,zhp c1',hwj]
   ·refine go ?_;refine zaj (cs':=eFoc b xi k si++F) (eLayF hg) ?_;simp only [JI,JF];have hpb:(si.dl.d.ready xi.m.clock=true→-9223372036854775808≤si.dl.d.price∧si.dl.d.price≤9223372036854775807):=λhh=>by have:=zod si.dl.ok (zfg hh);omega
    refine go ⟨λc1=>⟨hpb c1,λtx2 q1=>⟨λc2=> ?_,λc2=> ?_⟩⟩,λc1=> ?_⟩
    ·rw [xi.r2]at q1 c2
     let xj:En:={xi with m:={xi.m with turns:=(xi.m.turns.pay si.dl.d.price).1},tx:=tx2,r2:=q1,ok:=zlg xi.ok _}
     refine⟨xj,rfl,c1,c2,rfl,Imp.trans ?_ (zen (x:=xj) (k:=k) (s:=si) hg)⟩;dsimp only [xj,eFoc,zba,List.cons_append,List.nil_append];exact drp
    ·rw [xi.r2]at q1 c2;rw [if_pos (show si.m.d.ready xi.m.clock=true from c1),if_neg (by show¬(xi.m.turns.pay si.dl.d.price).2=true;rw [c2];decide)]at hSi;have hpe:(xi.m.turns.pay si.dl.d.price).1=xi.m.turns:=by
      unfold Turns.pay at c2 ⊢;split
      ·rfl
      ·rename_i h1;rw [if_neg h1]at c2;split
       ·rfl
       ·rename_i h2;rw [if_neg h2]at c2;cases c2
     rw [hpe]at q1
     let xj:En:={xi with tx:=tx2,r2:=q1}
     refine⟨xj,si,hg,rfl,hSi.symm,Imp.trans ?_ (zen (x:=xj) (k:=k) (s:=si) hg)⟩;dsimp only [xj,eFoc,zba,List.cons_append,List.nil_append];exact drp
    ·rw [if_neg (by show¬si.dl.d.ready xi.m.clock=true;rw [c1];decide)]at hSi;exact⟨xi,si,hg,rfl,hSi.symm,by exact(zen (b:=b) (F:=F) hg)⟩)⟩
end
def Eng.qle (e:Eng) (N:Nat):Prop:=∀k y,e.seat k=some y→y.q.length≤N
theorem zrr {e:Eng} {N M:Nat} (h:e.qle N) (hm:N≤M):e.qle M:=λk y hk=>Js (h k y hk) hm
theorem zz2 {e e':Eng} {N:Nat} (h:e.qle N) (hs:∀k,e'.seat k=e.seat k):e'.qle N:=λk y hk=>h k y (by rw [←hs];exact hk)
theorem zdp {e:Eng} {N:Nat} (h:e.qle N) (k:Nat):(e.settle k).qle N:=zz2 h (za0 e k)
theorem zcc {e:Eng} {N:Nat} (h:e.qle N) {k:Nat} {x y:Seat} (hk:e.seat k=some x) (hy:y.q.length≤N):(e.setSeat k (some y)).qle N:=λi z hz=>by
 rw [zag hk]at hz;split at hz
 ·cases hz;exact hy
 ·exact h i z hz
theorem zrs {e:Eng} {N:Nat} (h:e.qle N) (k:Nat) (id:Int):(e.gone k id).qle N:=λi z hz=>by
 rw [zbp]at hz;split at hz
 ·cases hz
 ·exact h i z hz
theorem zml {e:Eng} {N:Nat} (h:e.qle N) (v:EvM):(e.tell v).qle N:=h
theorem zmm {e:Eng} {N:Nat} (h:e.qle N) (k:Nat):(e.step k).2.qle N:=by
 unfold Eng.step;cases hk:e.seat k with
 | none=>exact h
 | some x=>
  dsimp only;have hx:=h k x hk;cases x.d.step e.clock with
  | none=>dsimp only;split;exact h;exact zrs h _ _
  | some y=>
   dsimp only;have h1:((e.setSeat k (some {x with d:=y.2})).tell (zar x.id y.1)).qle N:=zcc (y:={x with d:=y.2}) h hk hx;split
   ·exact h1
   ·exact zrs h1 _ _
theorem zdq {α:Type} {N:Nat} {f:Eng→α→Eng} (hf:∀e a,e.qle N→(f e a).qle N):∀(l:List α) (e:Eng),e.qle N→(l.foldl f e).qle N
 | [],_,h=>h
 | a::l,e,h=>zdq hf l _ (hf e a h)
theorem zrq {e:Eng} {N:Nat} (h:e.qle N) (n:Int):(e.open n).qle N:=by
 unfold Eng.open;split
 ·exact h
 ·refine zdp (λi z hz=> ?_) _;unfold Eng.seat at hz;simp only at hz;rw [JA,Jy]at hz;split at hz
  ·split at hz
   ·simp at hz;rw [←hz];exact JJ _
   ·simp at hz
  ·refine h i z ?_;unfold Eng.seat;rw [JA];exact hz
theorem zn9 {e:Eng} {N:Nat} (h:e.qle N) (o:OfferM):(e.offer o).qle (N+o.bytes.size):=by
 unfold Eng.offer;have h':=zrr h (Nat.le_add_right N o.bytes.size);cases e.slots.slot o.id with
 | none=>exact h'
 | some k=>
  dsimp only;cases hk:e.seat k with
  | none=>exact h'
  | some x=>
   dsimp only;split
   ·exact h'
   ·refine zcc h' hk ?_
    have:=h k x hk
    simp only [JH];have e1:o.bytes.data.toList.length=o.bytes.size:=rfl;omega
def zax (l:List OfferM):Nat:=(l.map λo=>o.bytes.size).sum
theorem zht:∀(l:List OfferM) (e:Eng) (N:Nat),e.qle N→(l.foldl Eng.offer e).qle (N+zax l)
 | [],_,_,h=>h
 | o::l,e,N,h=>by
  have:=zht l _ _ (zn9 h o)
  simp only [zax,Jf,QF]at this ⊢;rw [←Nat.add_assoc];exact this
theorem zx1 {N:Nat} (t:Int) (now:Bool) (e:Eng) (id:Int) (h:e.qle N):(e.cut1 t now id).qle N:=by
 unfold Eng.cut1;cases e.slots.slot id with
 | none=>exact h
 | some k=>
  dsimp only;cases hk:e.seat k with
  | none=>exact h
  | some x=>
   dsimp only;have h1:(e.setSeat k (some {x with d:=x.d.cut t})).qle N:=zcc (y:={x with d:=x.d.cut t}) h hk (h k x hk);split
   ·exact zdp h1 k
   ·split
    ·exact zdp (zmm h1 k) k
    ·exact zmm h1 k
theorem zur {e:Eng} {N:Nat} (h:e.qle N) (t:Int) (now:Bool):(e.cut t now).qle N:=zdq (λe a h=>zx1 t now e a h) _ _ h
theorem zoa {e:Eng} {N:Nat} (h:e.qle N) (r:RoundM):(e.drain r).qle N:=by
 unfold Eng.drain;split
 ·exact zur h _ _
 ·split
  ·exact zur h _ _
  ·exact h
theorem zx0 {e:Eng} {N:Nat} (h:e.qle N) (k:Nat):(e.read k).qle N:=by
 cases hk:e.seat k with
 | none=>unfold Eng.read;rw [hk];exact h
 | some x=>
  have hx:=h k x hk;by_cases h0:x.d.room=0
  ·unfold Eng.read;rw [hk];dsimp only;rw [if_pos h0];exact h
  ·rw [zey hk h0];have hg:x.got.q.length≤N:=by
    unfold Seat.got;split
    ·exact hx
    ·show(x.q.drop x.d.room).length≤N;rw [Jb];omega
   have h1:(e.read1 k x).qle N:=by
    unfold Eng.read1;split
    ·exact h
    ·refine zml (zcc h hk ?_) _;show(x.q.drop x.d.room).length≤N;rw [Jb];omega
   split
   ·have hs:∃z,(e.read1 k x).seat k=some z:=by
     unfold Eng.read1;split
     ·exact⟨x,hk⟩
     ·exact⟨x.read1,(zag hk _ k).trans (if_pos rfl)⟩
    obtain⟨z,hz⟩:=hs;exact zml (zcc (y:={x.got with d:=x.got.d.ends}) h1 hz hg) _
   ·exact h1
theorem zup {e:Eng} {N:Nat} (h:e.qle N) (k:Nat) (n:Int):(e.write k n).qle N:=by
 unfold Eng.write;cases hk:e.seat k with
 | none=>exact h
 | some x=>
  dsimp only;have h1:(e.setSeat k (some {x with d:=x.d.take n})).qle N:=zcc (y:={x with d:=x.d.take n}) h hk (h k x hk);split
  ·exact h1
  ·exact zml h1 _
theorem zie {e:Eng} {N:Nat} (h:e.qle N) (r:ReportM) (k:Nat):(e.reported r k).qle N:=by
 unfold Eng.reported;dsimp only;have h1:(if r.read then e.read k else e).qle N:=by
  split
  ·exact zx0 h k
  ·exact h
 split
 ·exact zup h1 k _
 ·exact h1
theorem zlf {e:Eng} {N:Nat} (h:e.qle N) (r:ReportM):(e.report r).qle N:=by
 unfold Eng.report;cases e.slots.slot r.id with
 | none=>exact h
 | some k=>
  dsimp only;split
  ·exact zdp (zie h r k) k
  ·exact zie h r k
theorem zn7 {N:Nat}:∀(f:Nat) (e:Eng) (k:Nat),e.qle N→(Eng.spend f e k).2.qle N
 | 0,_,_,h=>h
 | f+1,e,k,h=>by
  rw [Eng.spend];cases e.seat k with
  | none=>exact h
  | some x=>
   dsimp only;split
   ·split
    ·have h1:((({e with turns:=(e.turns.pay x.d.price).1}:Eng).step k).2).qle N:=zmm (e:={e with turns:=(e.turns.pay x.d.price).1}) h k;split
     ·exact zn7 f _ k h1
     ·exact h1
    ·exact h
   ·exact h
theorem zn2 (e:Eng) (k i:Nat):(e.rest k).seat i=e.seat i:=by unfold Eng.rest;cases e.seat k <;>rfl
theorem zxz {e:Eng} {N:Nat} (h:e.qle N):e.turn.2.qle N:=by
 unfold Eng.turn;cases e.turns.begin.2 with
 | none=>exact h
 | some k=>
  dsimp only;have h1:=zn7 ((e.turns.begin.1.has.getD k 0).toNat+1) {e with turns:=e.turns.begin.1} k h;split
  ·exact zz2 h1 (zn2 _ k)
  ·exact h1
theorem zn6 {N:Nat}:∀(v:Nat) (e:Eng),e.qle N→(Eng.visit v e).qle N
 | 0,_,h=>h
 | v+1,e,h=>by
  rw [Eng.visit];split
  ·exact zn6 v _ (zxz h)
  ·exact h
theorem zn8 {e:Eng} {N:Nat} (h:e.qle N) (r:RoundM):(e.round r).qle (N+zax r.offers):=by
 have h1:(e.told r).qle (N+zax r.offers):=zdq (λe a h=>zlf h a) _ _ (zoa (zht _ _ _ (zdq (λe a h=>zrq h a) _ _ (show(e.start r).qle N from h))) r);have h2:(e.told r).wakeAll.qle (N+zax r.offers):=zdq (λe a h=>zdp h _) _ _ h1;have h3:=zn6 e.s.visits.toNat _ h2;unfold Eng.round Eng.halt;split
 ·exact h3
 ·exact h3
theorem zqb (e:Eng) (k:Nat):e.out.length≤(e.settle k).out.length:=by rw [zbc];exact JG _
theorem zoo (e:Eng) (n:Int):e.out.length≤(e.open n).out.length:=by
 unfold Eng.open;split
 ·simp
 ·rw [zbc];simp
theorem zs9 (e:Eng) (o:OfferM):e.out.length≤(e.offer o).out.length:=by
 unfold Eng.offer;cases e.slots.slot o.id with
 | none=>exact JG _
 | some k=>
  dsimp only;cases e.seat k with
  | none=>exact JG _
  | some x=>dsimp only;split <;>exact JG _
theorem zr4 (e:Eng) (t:Int) (now:Bool):e.out.length≤(e.cut t now).out.length:=by
 have:=zbu (zg5 t now) e.slots.live {e with drains:=true,out:=e.out++[zbb t]}
 simp only [JH,JP]at this;unfold Eng.cut;omega
theorem zta (e:Eng) (r:RoundM):e.out.length≤(e.drain r).out.length:=by
 unfold Eng.drain;split
 ·exact zr4 _ _ _
 ·split
  ·exact zr4 _ _ _
  ·exact JG _
theorem zf9 (e:Eng) (r:ReportM):e.out.length≤(e.report r).out.length:=by
 unfold Eng.report;cases e.slots.slot r.id with
 | none=>exact JG _
 | some k=>
  dsimp only;have h1:e.out.length≤(e.reported r k).out.length:=by
   unfold Eng.reported;dsimp only;have h2:e.out.length≤(if r.read then e.read k else e).out.length:=by
    split
    ·exact zon e k
    ·exact JG _
   split
   ·exact Js h2 (zlm _ _ _)
   ·exact h2
  split
  ·rw [zbc];exact h1
  ·exact h1
theorem zvi (e:Eng):e.out.length≤e.turn.2.out.length:=by
 unfold Eng.turn;cases e.turns.begin.2 with
 | none=>exact JG _
 | some k=>
  dsimp only;have h1:=zh2 ((e.turns.begin.1.has.getD k 0).toNat+1) {e with turns:=e.turns.begin.1} k;split
  ·rw [ziq];exact h1
  ·exact h1
theorem zh1:∀(v:Nat) (e:Eng),e.out.length≤(Eng.visit v e).out.length
 | 0,_=>JG _
 | v+1,e=>by
  rw [Eng.visit];split
  ·exact Js (zvi e) (zh1 v _)
  ·exact JG _
theorem zom (e:Eng):e.out.length≤e.wakeAll.out.length:=by
 unfold Eng.wakeAll;exact zbu (f:=λ(e:Eng) (t:Int×Nat)=>e.settle t.2) (λe a=>zqb e a.2) _ {e with tm:=(tmDue e.tm.length e.tm e.clock).2}
theorem zvj (e:Eng):e.out.length≤e.halt.out.length:=by unfold Eng.halt;split <;>simp
def Eng.Fix (e e':Eng):Prop:=e'.s=e.s∧e'.scripts=e.scripts
theorem Eng.Fix.refl (e:Eng):e.Fix e:=⟨rfl,rfl⟩
theorem Eng.Fix.trans {a b c:Eng} (h:a.Fix b) (h':b.Fix c):a.Fix c:=⟨h'.1.trans h.1,h'.2.trans h.2⟩
theorem zdx (e:Eng) (k:Nat):e.Fix (e.settle k):=by unfold Eng.settle;cases e.seat k <;>exact⟨rfl,rfl⟩
theorem zm5 (e:Eng) (k:Nat):e.Fix (e.step k).2:=by
 unfold Eng.step;cases e.seat k with
 | none=>exact⟨rfl,rfl⟩
 | some x=>
  dsimp only;cases x.d.step e.clock with
  | none=>dsimp only;split <;>exact⟨rfl,rfl⟩
  | some y=>dsimp only;split <;>exact⟨rfl,rfl⟩
theorem zdy {α:Type} {f:Eng→α→Eng} (hf:∀(e:Eng) (a:α),e.Fix (f e a)):∀(l:List α) (e:Eng),e.Fix (l.foldl f e)
 | [],e=>Eng.Fix.refl e
 | a::l,e=>(hf e a).trans (zdy hf l _)
theorem zyu (e:Eng) (n:Int):e.Fix (e.open n):=by
 unfold Eng.open;split
 ·exact⟨rfl,rfl⟩
 ·exact Eng.Fix.trans (b:={e with slots:=e.slots.open,seats:=_,out:=_}) ⟨rfl,rfl⟩ (zdx _ _)
theorem zv5 (e:Eng) (o:OfferM):e.Fix (e.offer o):=by
 unfold Eng.offer;cases e.slots.slot o.id with
 | none=>exact⟨rfl,rfl⟩
 | some k=>
  dsimp only;cases e.seat k with
  | none=>exact⟨rfl,rfl⟩
  | some x=>dsimp only;split <;>exact⟨rfl,rfl⟩
theorem zyv (t:Int) (now:Bool) (e:Eng) (id:Int):e.Fix (e.cut1 t now id):=by
 unfold Eng.cut1;cases e.slots.slot id with
 | none=>exact⟨rfl,rfl⟩
 | some k=>
  dsimp only;cases e.seat k with
  | none=>exact⟨rfl,rfl⟩
  | some x=>
   dsimp only;have h1:e.Fix (e.setSeat k (some {x with d:=x.d.cut t})):=⟨rfl,rfl⟩;split
   ·exact h1.trans (zdx _ _)
   ·split
    ·exact(h1.trans (zm5 _ _)).trans (zdx _ _)
    ·exact h1.trans (zm5 _ _)
theorem zv7 (e:Eng) (t:Int) (now:Bool):e.Fix (e.cut t now):=Eng.Fix.trans (b:={e with drains:=true,out:=e.out++[zbb t]}) ⟨rfl,rfl⟩ (zdy (zyv t now) _ _)
theorem zv6 (e:Eng) (r:RoundM):e.Fix (e.drain r):=by
 unfold Eng.drain;split
 ·exact zv7 _ _ _
 ·split
  ·exact zv7 _ _ _
  ·exact Eng.Fix.refl e
theorem zyt (e:Eng) (k:Nat):e.Fix (e.read k):=by
 cases hk:e.seat k with
 | none=>unfold Eng.read;rw [hk];exact⟨rfl,rfl⟩
 | some x=>
  by_cases h0:x.d.room=0
  ·unfold Eng.read;rw [hk];dsimp only;rw [if_pos h0];exact⟨rfl,rfl⟩
  ·rw [zey hk h0];have h1:e.Fix (e.read1 k x):=by unfold Eng.read1;split <;>exact⟨rfl,rfl⟩
   split
   ·exact h1.trans ⟨rfl,rfl⟩
   ·exact h1
theorem zv4 (e:Eng) (k:Nat) (n:Int):e.Fix (e.write k n):=by
 unfold Eng.write;cases e.seat k with
 | none=>exact⟨rfl,rfl⟩
 | some x=>dsimp only;split <;>exact⟨rfl,rfl⟩
theorem zti (e:Eng) (r:ReportM):e.Fix (e.report r):=by
 unfold Eng.report;cases e.slots.slot r.id with
 | none=>exact⟨rfl,rfl⟩
 | some k=>
  dsimp only;have h1:e.Fix (e.reported r k):=by
   unfold Eng.reported;dsimp only;have h2:e.Fix (if r.read then e.read k else e):=by
    split
    ·exact zyt e k
    ·exact Eng.Fix.refl e
   split
   ·exact h2.trans (zv4 _ _ _)
   ·exact h2
  split
  ·exact h1.trans (zdx _ _)
  ·exact h1
theorem zo7:∀(f:Nat) (e:Eng) (k:Nat),e.Fix (Eng.spend f e k).2
 | 0,e,_=>Eng.Fix.refl e
 | f+1,e,k=>by
  rw [Eng.spend];cases e.seat k with
  | none=>exact⟨rfl,rfl⟩
  | some x=>
   dsimp only;split
   ·split
    ·have h1:e.Fix (({e with turns:=(e.turns.pay x.d.price).1}:Eng).step k).2:=Eng.Fix.trans (b:={e with turns:=(e.turns.pay x.d.price).1}) ⟨rfl,rfl⟩ (zm5 _ _);split
     ·exact h1.trans (zo7 f _ k)
     ·exact h1
    ·exact⟨rfl,rfl⟩
   ·exact⟨rfl,rfl⟩
theorem zys (e:Eng) (k:Nat):e.Fix (e.rest k):=by unfold Eng.rest;cases e.seat k <;>exact⟨rfl,rfl⟩
theorem zyq (e:Eng):e.Fix e.turn.2:=by
 unfold Eng.turn;cases e.turns.begin.2 with
 | none=>exact⟨rfl,rfl⟩
 | some k=>
  dsimp only;have h1:e.Fix (Eng.spend ((e.turns.begin.1.has.getD k 0).toNat+1) {e with turns:=e.turns.begin.1} k).2:=Eng.Fix.trans (b:={e with turns:=e.turns.begin.1}) ⟨rfl,rfl⟩ (zo7 _ _ _);split
  ·exact h1.trans (zys _ _)
  ·exact h1
theorem zql (e:Eng):e.Fix e.wakeAll:=by
 unfold Eng.wakeAll;exact Eng.Fix.trans (b:={e with tm:=(tmDue e.tm.length e.tm e.clock).2}) ⟨rfl,rfl⟩ (zdy (f:=λ(e:Eng) (t:Int×Nat)=>e.settle t.2) (λe a=>zdx e a.2) _ _)
theorem zyr (e:Eng) (r:RoundM):e.Fix (e.told r):=by
 unfold Eng.told;have h0:e.Fix (e.start r):=⟨rfl,rfl⟩;exact(((h0.trans (zdy zyu _ _)).trans (zdy zv5 _ _)).trans (zv6 _ r)).trans (zdy zti _ _)
theorem znh:∀(f:Nat) (tm:List Int) (now:Int),(tmDue f tm now).1.length≤f
 | 0,_,_=>JG _
 | f+1,tm,now=>by
  rw [tmDue];cases tmMin tm 0 with
  | none=>exact JJ _
  | some y=>
   dsimp only;split
   ·have:=znh f (tm.set y.2 never) now
    simp only [Jw];omega
   ·exact JJ _
class Bes {X:Type} (C:Nat→X→Chunk) (cs:St) (b:Nat) (put:Chunk→St) (A:Chunk):Prop where
 h:∃i j,i≠j∧i<cs.length∧cs[j]? =some A∧∀c,put c=cs.set i c
instance bes0 {X:Type} {C:Nat→X→Chunk} {cs:St} {b:Nat} {x:X} {A:Chunk} [q:In cs A]:Bes C (C b x::cs) b (λc=>c::cs) A:=⟨by
 obtain⟨j,hj,he⟩:=List.mem_iff_getElem.1 q.h;exact⟨0,j+1,by omega,by simp,by rw [Qi,JC hj,he],λc=>rfl⟩⟩
instance bes2 {X:Type} {C:Nat→X→Chunk} {cs:St} {b:Nat} {put:Chunk→St} {A d:Chunk} [q:Bes C cs b put A]:Bes C (d::cs) b (λc=>d::put c) A:=⟨by
 obtain⟨i,j,h1,h2,h3,h4⟩:=q.h;exact⟨i+1,j+1,by omega,by simp;omega,by rw [Qi];exact h3,λc=>by simp [h4]⟩⟩
theorem Ob.fnA {X:Type} {C:Nat→X→Chunk} {cs:St} {b:Nat} {x:X} {put:Chunk→St} {A:Chunk} (o:Ob C cs b x put) (q:Bes C cs b put A) {g:FuncId} {args:List Value} {K:Value→SP} (parts:St) (hp:parts.flatten=C b x)
  (h:∀F,In F A→Go.Proofs.YtbjlfobjngogkaaGreatDoor.fn g args (λv c=>∃parts',Imp c (parts'++F)∧K v (put parts'.flatten)) (parts++F)):Go.Proofs.YtbjlfobjngogkaaGreatDoor.fn g args K cs:=by
 obtain⟨i,h1,h2⟩:=o.h;obtain⟨i',j,g1,g2,g3,g4⟩:=q.h;have hi:i'=i:=by
  have h3:=zaa h1;have e:=(h2 (List.replicate ((cs.flatten).length+1) (0,.cells #[] 0))).symm.trans (g4 (List.replicate ((cs.flatten).length+1) (0,.cells #[] 0)));rcases Nat.decEq i' i with hne | he
  ·exfalso;have e2:=congrArg (λl:St=>l[i]?) e;simp only [QR h3,JS hne]at e2;rw [h1]at e2;have e3:=congrArg List.length (JQ e2);rw [QG]at e3;have e4:(C b x).length≤cs.flatten.length:=by
    have:=JN h1
    exact(List.sublist_flatten_of_mem this).length_le
   omega
  ·exact he
 subst hi;have hA:In (cs.set i' []) A:=⟨JN (i:=j) (by rw [JS g1];exact g3)⟩;refine zfu i' parts (by rw [hp];exact h1) ?_;refine⟨(h (cs.set i' []) hA).enters,λE w hw=>Calls.mono ((h (cs.set i' []) hA).calls E w hw) ?_⟩;rintro e w' ⟨v,c1,he,hw1,parts',q1,q2⟩;exact⟨v,c1,he,hw1,[],parts',q1,by rw [h2]at q2;exact q2⟩
instance (priority:=30) rowVie {α:Type} {T sz n c:Nat} {a:Option Addr} {e:Enc α sz} {l:List α} {ch:Chunk} [r:Row T sz a n c e l ch]:Vie T sz a n c e l ch:=⟨Row.rd r (cs:=[ch]) (put:=λc=>[c]) inferInstance⟩
instance cvBound {cs:St} {K:Value→SP} {f:Nat} {v:Value} {args:List Value}:Go1 (cv (.func (.func f) ⟨[v]⟩ ⟨[]⟩) args K cs) (fn f (v::args) K cs):=⟨λh=>⟨f,⟨[v]⟩,⟨[]⟩,rfl,by simpa [fn]using h⟩⟩
@[reducible] def zkk:Enc OfferM 3:=⟨λx=>[.int .i64 x.id,.string x.bytes,.bool x.eof],by omega,λ_=>rfl⟩
@[reducible] def zlx:Enc ReportM 4:=⟨λx=>[.int .i64 x.id,.bool x.read,.bool x.write,.int .i64 x.accept],by omega,λ_=>rfl⟩
section
variable {cs:St} {b:Nat} {x:En} {put:Chunk→St} {K:Value→SP} {A:Chunk} {a:Option Addr} {n c:Nat}
instance c87 {l:List Int} [o:Ob engC cs b x put] [v:Vie 3 1 a n c zah l A] [q:Bes engC cs b put A]:Go1 (fn 87 [.slice a n c,.func (.func 88) ⟨[.pointer (some (ad b 0))]⟩ ⟨[]⟩] K cs)
  ((n≤1000000000∧(l.foldl Eng.open x.m).out.length<1000000000000)∧∀x',En.m x'=l.foldl Eng.open x.m→K undef (put (engC b x'))):=⟨λ⟨⟨hn,hl⟩,h⟩=>o.fnA q [engC b x] (by simp) λF hA=>f87 (by
 unfold s87;have hlen:=v.h.len;refine lp (λy:Nat×En=>[.int .i64 y.1]) (λy=>engC b y.2::F) (λy=>y.1≤n∧(l.drop y.1).foldl Eng.open y.2.m=l.foldl Eng.open x.m) (λy=>n-y.1) (0,x) rfl (Imp.refl _) ⟨JJ _,by rw [Jm]⟩ ?_;rintro⟨i,xi⟩ ⟨i1,i2⟩;dsimp only at *;refine go ?_;simp only [JD,JB,JE,id];refine⟨λc0=>⟨by omega,λz hz=> ?_⟩,λc0=> ?_⟩
 ·have hil:=zaa hz;have ed:l.drop i=z::l.drop (i+1):=by
   rw [JM hil];rw [JC hil]at hz;rw [JQ hz]
  rw [ed,Ji]at i2;have h1:=zbu zoo (l.drop (i+1)) (xi.m.open z);have h2:=zoo xi.m z;rw [i2]at h1;rw [zae (by omega)];refine⟨by omega,λx' hx'=>⟨(i+1,x'),rfl,Imp.refl _,⟨by omega,by rw [hx'];exact i2⟩,by simp only;omega⟩⟩
 ·have ed:l.drop i=[]:=Je (by omega);rw [ed]at i2;exact eDone xi (Imp.refl _) (h xi i2))⟩
instance c89 {l:List OfferM} [o:Ob engC cs b x put] [v:Vie 85 3 a n c zkk l A] [q:Bes engC cs b put A]:Go1 (fn 89 [.slice a n c,.func (.func 90) ⟨[.pointer (some (ad b 0))]⟩ ⟨[]⟩] K cs)
  ((n≤1000000000∧∃N,x.m.qle N∧N+zax l≤1000000000000)∧∀x',En.m x'=l.foldl Eng.offer x.m→K undef (put (engC b x'))):=⟨λ⟨⟨hn,N,hq,hN⟩,h⟩=>o.fnA q [engC b x] (by simp) λF hA=>f89 (by
 unfold s89;have hlen:=v.h.len;refine lp (λy:Nat×En=>[.int .i64 y.1]) (λy=>engC b y.2::F) (λy=>y.1≤n∧(l.drop y.1).foldl Eng.offer y.2.m=l.foldl Eng.offer x.m∧y.2.m.qle (N+zax (l.take y.1))) (λy=>n-y.1) (0,x) rfl (Imp.refl _) ⟨JJ _,by rw [Jm],hq⟩ ?_;rintro⟨i,xi⟩ ⟨i1,i2,i3⟩;dsimp only at *;refine go ?_;simp only [JD,JB,JE];refine⟨λc0=>⟨by omega,λz hz b1=> ?_⟩,λc0=> ?_⟩
 ·have hil:=zaa hz;have ed:l.drop i=z::l.drop (i+1):=by
   rw [JM hil];rw [JC hil]at hz;rw [JQ hz]
  have et:l.take (i+1)=l.take i++[z]:=by
   rw [JZ hil];rw [JC hil]at hz;rw [JQ hz]
  have es:zax (l.take (i+1))=zax (l.take i)+z.bytes.size:=by rw [et];simp [zax]
  have esl:zax (l.take i)≤zax l:=by
   have hh:=congrArg zax (Jx i l);unfold zax at hh ⊢;rw [QL,QX]at hh;omega
  rw [ed,Ji]at i2;rw [zae (by omega)];refine⟨λk y hk=> ?_,λx' hx'=>⟨(i+1,x'),rfl,drp,⟨by omega,by rw [hx'];exact i2,?_⟩,by simp only;omega⟩⟩
  ·have:=i3 k y hk;omega
  ·rw [hx',es,←Nat.add_assoc];exact zn9 i3 z
 ·have ed:l.drop i=[]:=Je (by omega);rw [ed]at i2;exact eDone xi (Imp.refl _) (h xi i2))⟩
instance c92 {l:List ReportM} [o:Ob engC cs b x put] [v:Vie 87 4 a n c zlx l A] [q:Bes engC cs b put A]:Go1 (fn 92 [.slice a n c,.func (.func 93) ⟨[.pointer (some (ad b 0))]⟩ ⟨[]⟩] K cs)
  ((n≤1000000000∧x.m.qle 1000000000000∧(l.foldl Eng.report x.m).out.length<999999999990)∧∀x',En.m x'=l.foldl Eng.report x.m→K undef (put (engC b x'))):=⟨λ⟨⟨hn,hq,hl⟩,h⟩=>o.fnA q [engC b x] (by simp) λF hA=>f92 (by
 unfold s92;have hlen:=v.h.len;refine lp (λy:Nat×En=>[.int .i64 y.1]) (λy=>engC b y.2::F) (λy=>y.1≤n∧(l.drop y.1).foldl Eng.report y.2.m=l.foldl Eng.report x.m∧y.2.m.qle 1000000000000) (λy=>n-y.1) (0,x) rfl (Imp.refl _) ⟨JJ _,by rw [Jm],hq⟩ ?_;rintro⟨i,xi⟩ ⟨i1,i2,i3⟩;dsimp only at *;refine go ?_;simp only [JD,JB,JE];refine⟨λc0=>⟨by omega,λz hz b1=> ?_⟩,λc0=> ?_⟩
 ·have hil:=zaa hz;have ed:l.drop i=z::l.drop (i+1):=by
   rw [JM hil];rw [JC hil]at hz;rw [JQ hz]
  rw [ed,Ji]at i2;have h1:=zbu zf9 (l.drop (i+1)) (xi.m.report z);have h2:=zf9 xi.m z;rw [i2]at h1;rw [zae (by omega)];refine⟨⟨by omega,i3⟩,λx' hx'=>⟨(i+1,x'),rfl,drp,⟨by omega,by rw [hx'];exact i2,?_⟩,by simp only;omega⟩⟩;rw [hx'];exact zlf i3 z
 ·have ed:l.drop i=[]:=Je (by omega);rw [ed]at i2;exact eDone xi (Imp.refl _) (h xi i2))⟩
instance c94 {l:List (Int×Int)} [o:Ob engC cs b x put] [v:Vie 191 2 a n c encE l A] [q:Bes engC cs b put A]:Go1 (fn 94 [.slice a n c,.func (.func 96) ⟨[.pointer (some (ad b 0))]⟩ ⟨[]⟩] K cs)
  ((n≤1000000000∧∀z∈l,0≤z.2∧∃y,x.m.seat z.2.toNat=some y)∧∀x',En.m x'=l.foldl (λe z=>e.settle z.2.toNat) x.m→K undef (put (engC b x'))):=⟨λ⟨⟨hn,hs⟩,h⟩=>o.fnA q [engC b x] (by simp) λF hA=>f94 (by
 unfold s94;have hlen:=v.h.len;refine lp (λy:Nat×En=>[.int .i64 y.1]) (λy=>engC b y.2::F) (λy=>y.1≤n∧(l.drop y.1).foldl (λe z=>e.settle z.2.toNat) y.2.m=l.foldl (λe z=>e.settle z.2.toNat) x.m∧∀k,y.2.m.seat k=x.m.seat k) (λy=>n-y.1) (0,x) rfl (Imp.refl _) ⟨JJ _,by rw [Jm],λ_=>rfl⟩ ?_;rintro⟨i,xi⟩ ⟨i1,i2,i3⟩;dsimp only at *;refine go ?_;simp only [JD,JB,JE];refine⟨λc0=>⟨by omega,λz hz b1=> ?_⟩,λc0=> ?_⟩
 ·have hil:=zaa hz;have ed:l.drop i=z::l.drop (i+1):=by
   rw [JM hil];rw [JC hil]at hz;rw [JQ hz]
  rw [ed,Ji]at i2;obtain⟨z0,y,hy⟩:=hs z (JN hz);obtain⟨s,hsg,_⟩:=xi.seat_iff.1 ((i3 z.2.toNat).trans hy);rw [zae (by omega)];refine⟨⟨z0,s,hsg⟩,λx' hx' _=>⟨(i+1,x'),rfl,drp,⟨by omega,by rw [hx'];exact i2,λk=> ?_⟩,by simp only;omega⟩⟩;rw [hx',za0];exact i3 k
 ·have ed:l.drop i=[]:=Je (by omega);rw [ed]at i2;exact eDone xi (Imp.refl _) (h xi i2))⟩
end
@[reducible] def zbn (t:Int) (a1 a2 a3:Option Addr) (n1 n2 n3 c1 c2 c3:Nat) (dr:Int) (ab:Bool):List Value:=[.int .i64 t,.slice a1 n1 c1,.slice a2 n2 c2,.slice a3 n3 c3,.int .i64 dr,.bool ab]
section
variable {cs:St} {b:Nat} {x:En} {put:Chunk→St} {K:Value→SP} {A:Chunk}
instance c28 {t dr:Int} {ab:Bool} {a1 a2 a3:Option Addr} {n1 n2 n3 c1 c2 c3:Nat} {l1:List Int} {l2:List OfferM} {l3:List ReportM} [o:Ob engC cs b x put] [v1:Vie 3 1 a1 n1 c1 zah l1 A] [v2:Vie 85 3 a2 n2 c2 zkk l2 A] [v3:Vie 87 4 a3 n3 c3 zlx l3 A] [q:Bes engC cs b put A]:
  Go1 (fn 28 [.pointer (some (ad b 0)),.agg ⟨[.int .i64 t,.slice a1 n1 c1,.slice a2 n2 c2,.slice a3 n3 c3,.int .i64 dr,.bool ab]⟩] K cs)
   (((t≤never∧dr≤never)∧(n1≤1000000000∧n2≤1000000000∧n3≤1000000000)∧(x.m.round ⟨t,l1,l2,l3,dr,ab⟩).out.length<999999999990∧∃N,x.m.qle N∧N+zax l2≤1000000000000)∧
    ∀x':En,En.m x'=x.m.round ⟨t,l1,l2,l3,dr,ab⟩→K (.slice x'.oa x'.on x'.oc) (put (engC b x'))):=⟨λ⟨⟨⟨ht,hd⟩,⟨hn1,hn2,hn3⟩,hl,N,hq,hN⟩,h⟩=>o.fnA q (zak b x) rfl λF hA=>f28 (by
 have hnv:=nev;have hc1:=x.ok.c1;generalize hr:(⟨t,l1,l2,l3,dr,ab⟩:RoundM)=r at *;have er:r.opens=l1∧r.offers=l2∧r.reports=l3∧r.drain=dr∧r.abort=ab∧r.ticks=t:=by subst hr;exact⟨rfl,rfl,rfl,rfl,rfl,rfl⟩
 obtain⟨er1,er2,er3,er4,er5,er6⟩:=er;generalize hm1:x.m.start r=m1 at *;have hm1':m1=x.m.start r:=hm1.symm;generalize hm2:l1.foldl Eng.open m1=m2 at *;generalize hm3:l2.foldl Eng.offer m2=m3 at *;generalize hm4:m3.drain r=m4 at *;generalize hm5:l3.foldl Eng.report m4=m5 at *;have htold:x.m.told r=m5:=by unfold Eng.told;rw [er1,er2,er3,hm1,hm2,hm3,hm4,hm5]
 generalize hm6:m5.wakeAll=m6 at *;generalize hm7:Eng.visit x.m.s.visits.toNat m6=m7 at *;have hround:x.m.round r=m7.halt:=by unfold Eng.round;rw [htold,hm6,hm7]
 rw [hround]at hl h;have g7:m7.out.length<999999999990:=QZ (zvj m7) hl;have g6:m6.out.length<999999999990:=by rw [←hm7]at g7;exact QZ (zh1 _ _) g7
 have g5:m5.out.length<999999999990:=by rw [←hm6]at g6;exact QZ (zom _) g6
 have g4:m4.out.length<999999999990:=by rw [←hm5]at g5;exact QZ (zbu zf9 _ _) g5
 have g3:m3.out.length<999999999990:=by rw [←hm4]at g4;exact QZ (zta _ _) g4
 have g2:m2.out.length<999999999990:=by rw [←hm3]at g3;exact QZ (zbu zs9 _ _) g3
 have q1:m1.qle N:=by rw [hm1'];exact hq
 have q2:m2.qle N:=by rw [←hm2];exact zdq (λe a h=>zrq h a) _ _ q1
 have q3:m3.qle (N+zax l2):=by rw [←hm3];exact zht _ _ _ q2
 have q4:m4.qle 1000000000000:=by rw [←hm4];exact zrr (zoa q3 r) hN
 unfold s28;simp only [zak,JI,JF];refine go λb1=>⟨⟨by omega,ht⟩,?_⟩;have hck:(if 9223372036854775806<tadd x.m.clock t then 9223372036854775806 else tadd x.m.clock t)=min (tadd x.m.clock r.ticks) (never-1):=by rw [er6];omega
 rw [hck];have hst:=zfe x.ok r
 let x0:En:={x with m:={x.m with clock:=min (tadd x.m.clock r.ticks) (never-1),out:=[]},rounds:=w64 (x.rounds+1),oa:=none,on:=0,oc:=0,och:=[],orow:=⟨Sl.nil⟩,ok:={hst with}}
 refine zaj (cs':=engC b x0::bk b1 73 (zbn t a1 a2 a3 n1 n2 n3 c1 c2 c3 dr ab)::F) (Imp.trans (by dsimp only [zak,zba,x0,List.cons_append,List.nil_append];exact drp) (eShut (x:=x0))) ?_;refine go ⟨by show(0:Nat)<_;omega,λx1 hx1 _=> ?_⟩;have e1:x1.m=m1:=by rw [hx1,hm1'];rfl
 refine go ⟨⟨hn1,by rw [e1,hm2];omega⟩,λx2 hx2=> ?_⟩;rw [e1,hm2]at hx2;refine go ⟨⟨hn2,N,by rw [hx2];exact q2,hN⟩,λx3 hx3=> ?_⟩;rw [hx2,hm3]at hx3;have hdr:∀e:Eng,e.drain ⟨0,[],[],[],dr,ab⟩=e.drain r:=λe=>by unfold Eng.drain;rw [er4,er5]
 refine go ⟨⟨hd,by rw [hdr,hx3,hm4];omega⟩,λx4 hx4=> ?_⟩;rw [hdr,hx3,hm4]at hx4;refine go ⟨⟨hn3,by rw [hx4];exact q4,by rw [hx4,hm5];exact g5⟩,λx5 hx5=> ?_⟩;rw [hx4,hm5]at hx5;refine go ?_;refine zaj (cs':=zak b x5++(bk b1 73 (zbn t a1 a2 a3 n1 n2 n3 c1 c2 c3 dr ab)::F)) (eLay (x:=x5)) ?_;simp only [zak,JI,JF];refine go ⟨x5.m.tm,x5.r3,λhx' al cl chl h1 h2 rl=> ?_⟩;have etl:=x5.r3.cns.tl;rw [←etl]at h1 rl ⊢;obtain⟨d1,d2,d3,d4⟩:=zcz x5.m.tm.length x5.m.tm x5.m.clock x5.ok.tv;have hok6:Eng.Ok {x5.m with tm:=(tmDue x5.m.tm.length x5.m.tm x5.m.clock).2}:={x5.ok with l4:=d1.trans x5.ok.l4,tm:=λk hk=>x5.ok.tm k (d3 k hk),tv:=d2}
 let x6:En:={x5 with m:={x5.m with tm:=(tmDue x5.m.tm.length x5.m.tm x5.m.clock).2},hx:=hx',r3:=h1,ok:=hok6}
 refine zaj (cs':=engC b x6::chl::bk b1 73 (zbn t a1 a2 a3 n1 n2 n3 c1 c2 c3 dr ab)::F) (Imp.trans (by dsimp only [zak,zba,x6,List.cons_append,List.nil_append];exact drp) (eShut (x:=x6))) ?_;have hll:=rl.len;have hd5:(tmDue x5.m.tm.length x5.m.tm x5.m.clock).1.length≤1000000000:=by
  have h1:=znh x5.m.tm.length x5.m.tm x5.m.clock;have h2:=x5.ok.l4;have h3:=zal x5.ok.sg;omega
 refine go ⟨⟨hd5,λz hz=> ?_⟩,λx7 hx7=> ?_⟩
 ·obtain⟨y,hy,rfl⟩:=Jt.1 hz;obtain⟨y1,y2⟩:=d4 y hy;obtain⟨sx,hsx⟩:=x5.ok.tm y.2 y1;exact⟨by simp [zeh],sx,by show x5.m.seat _=_;simpa [zeh]using hsx⟩
 have e7:x7.m=m6:=by
  rw [hx7,←hm6,List.foldl_map,←hx5];rfl
 have es7:x7.m.s=x.m.s:=by
  rw [e7,←hm6,←htold];exact((zyr x.m r).trans (zql _)).1
 have hvis:=zal x.ok.sg;refine⟨λl cx=>∃xv:En,xv.m=m7∧Imp cx (engC b xv::F),?_,?_⟩
 ·rintro l cx ⟨xv,hv,hi⟩;refine⟨_,hi.trans (eLay (x:=xv)),?_⟩;simp only [zak,JI,JF];have fin0:m7.halt=m7→∀{c:St},Imp c (zak b xv++F)→∃parts',Imp c (parts'++F)∧K (.slice xv.oa xv.on xv.oc) (put parts'.flatten):=λhh c hi=>eDone xv (hi.trans eShut) (h xv (by rw [hh,hv]));have esl:xv.slx.m.live=m7.slots.live:=by rw [xv.r1,hv]
  refine go ⟨λc1=>⟨λc2 al nl cl chl rl=> ?_,λc2=> ?_⟩,λc1=> ?_⟩
  ·rw [esl]at rl;have hnl:=rl.len;simp only [Jd,JL,ne_eq];have hcond:m7.drains=true∧m7.stopped=false:=by rw [←hv];exact⟨c1,by simpa using c2⟩
   refine⟨λc3=> ?_,λc3=> ?_⟩
   ·have hlv:m7.slots.live=[]:=List.length_eq_zero_iff.1 (by omega);have hh:m7.halt={m7 with stopped:=true,out:=m7.out++[zf4]}:=by unfold Eng.halt;rw [hcond.1,hcond.2,hlv];rfl
    let xs:En:={xv with m:={xv.m with stopped:=true},ok:={xv.ok with}}
    refine zaj (cs':=engC b xs::F) (Imp.trans (by dsimp only [zak,zba,xs,List.cons_append,List.nil_append];exact drp) (eShut (x:=xs))) ?_;refine go ⟨by show xv.m.out.length<_;rw [hv];omega,λxz hxz _=> ?_⟩;refine go ?_;refine eDone xz (Imp.refl _) (h xz ?_);rw [hxz,hh,←hv];rfl
   ·refine go (fin0 ?_ ?_)
    case refine_2=>dsimp only [zak,List.cons_append,List.nil_append];exact drp
    unfold Eng.halt;rw [if_neg];rw [hcond.1,hcond.2];intro hc;have hle:m7.slots.live=[]:=by simpa using hc
    rw [hle]at hnl;simp at hnl;omega
  ·refine fin0 ?_ (Imp.refl _);unfold Eng.halt;rw [if_neg];rw [←hv]
   have:xv.m.stopped=true:=by simpa using c2
   rw [this];simp
  ·refine fin0 ?_ (Imp.refl _);unfold Eng.halt;rw [if_neg];rw [←hv,c1];simp
 ·refine lp (λy:Nat×En=>[.int .i64 y.1]) (λy=>engC b y.2::F) (λy=>(y.1:Int)≤x.m.s.visits∧Eng.visit (x.m.s.visits.toNat-y.1) y.2.m=m7∧y.2.m.s=x.m.s) (λy=>x.m.s.visits.toNat-y.1) (0,x7) rfl drp ⟨by simp only;omega,by simp only [Nat.sub_zero];rw [e7];exact hm7,es7⟩ ?_;rintro⟨i,xi⟩ ⟨i1,i2,i3⟩;dsimp only at *;refine go ?_;rw [i3];simp only [JD,JB];refine⟨λc0=> ?_,λc0=>⟨xi,?_,Imp.refl _⟩⟩
  ·obtain⟨v,hv⟩:∃v,x.m.s.visits.toNat-i=v+1:=⟨x.m.s.visits.toNat-i-1,by omega⟩;rw [hv,Eng.visit]at i2;have hgt:xi.m.turn.2.out.length<1000000000000:=by
    split at i2
    ·have:=zh1 v xi.m.turn.2;rw [i2]at this;omega
    ·rename_i hc
     have:xi.m.turn.2=xi.m:=by
      unfold Eng.turn at hc ⊢;cases hb:xi.m.turns.begin.2 with
      | none=>rfl
      | some k=>rw [hb]at hc;dsimp only at hc;split at hc <;>exact absurd rfl hc
     rw [this,i2];omega
   rw [zae (by omega)];refine⟨hgt,λxn hxn=>⟨λc1=> ?_,λc1=> ?_⟩⟩
   ·rw [if_pos c1]at i2;refine⟨(i+1,xn),rfl,Imp.refl _,⟨by simp only;omega,?_,?_⟩,by simp only;omega⟩
    ·show Eng.visit (x.m.s.visits.toNat-(i+1)) xn.m=m7;rw [hxn,show x.m.s.visits.toNat-(i+1)=v by omega];exact i2
    ·show xn.m.s=x.m.s;rw [hxn,(zyq xi.m).1,i3]
   ·rw [if_neg (by simp [c1])]at i2;refine⟨xn,?_,Imp.refl _⟩;rw [hxn,←i2];unfold Eng.turn at c1 ⊢;cases hb:xi.m.turns.begin.2 with
    | none=>rfl
    | some k=>rw [hb]at c1;dsimp only at c1;split at c1 <;>cases c1
  ·have:x.m.s.visits.toNat-i=0:=by omega
   rw [this,Eng.visit]at i2;exact i2)⟩
end
instance bd174:BdT 174 [(0,6),(6,1),(7,1),(8,1),(9,1),(10,1),(11,1),(12,1),(13,1),(14,1),(15,1),(16,1)] [.int .i64 0,.int .i64 0,.int .i64 0,.int .i64 0,.int .i64 0,.int .i64 0,.slice none 0 0,.pointer none,.slice none 0 0,.pointer none,.pointer none,.map none,.int .i64 0,.int .i64 0,.bool false,.bool false,.slice none 0 0]:=⟨by kernel_rfl⟩
instance:ZeT 198 (.pointer none):=⟨by kernel_rfl⟩
section
variable {cs:St} {K:Value→SP}
theorem z3f {su:Setup} (hg:good su=true) {cx G:St} {bq slb sb tb hb mr:Nat} {slx:SlX} {tx:TuX} {hx:HpW} {M:Mp mvI} (hs:SlX.m slx=Slots.new su.live) (ht:TuX.m tx=Turns.new su.live su.quantum) (hh:HpI hx (List.replicate (min (max su.live 1) 1024).toNat never)) (hM:M.l=[])
  [r:RdB cx bq 174 [.int .i64 su.live,.int .i64 su.ring,.int .i64 su.win,.int .i64 su.out,.int .i64 su.quantum,.int .i64 su.visits,.slice none 0 0,.pointer (some (ad slb 0)),.slice (some (ad sb 0)) su.live.toNat su.live.toNat,.pointer (some (ad tb 0)),.pointer (some (ad hb 0)),.map (some mr),.int .i64 0,.int .i64 0,.bool false,.bool false,.slice none 0 0]]
  (hi:Imp cx (bk bq 174 [.int .i64 su.live,.int .i64 su.ring,.int .i64 su.win,.int .i64 su.out,.int .i64 su.quantum,.int .i64 su.visits,.slice none 0 0,.pointer (some (ad slb 0)),.slice (some (ad sb 0)) su.live.toNat su.live.toNat,.pointer (some (ad tb 0)),.pointer (some (ad hb 0)),.map (some mr),.int .i64 0,.int .i64 0,.bool false,.bool false,.slice none 0 0]::za4 slb slx::bk sb 198 (List.replicate su.live.toNat (.pointer none))::za3 tb tx::hpC hb hx::mpC mvI mr M::G)):
  ∃(bq':Nat) (x0:En),([.pointer (some (ad bq 0))]:List Value)=[.pointer (some (ad bq' 0))]∧x0.m=Eng.new su []∧x0.scs.c=0∧Imp cx (engC bq' x0::G):=by
 have hgf:=zal hg;have hlv:(min (max su.live 1) 1024).toNat=su.live.toNat:=by omega
 have hok:=zfn (scripts:=[]) hg (by simp) (by simp)
 let x0:En:={
  m:=Eng.new su [],scs:=⟨[],none,0,0,[],⟨[],zbx,rfl,by simp⟩⟩,slb:=slb,slx:=slx,sra:=some (ad sb 0),sn:=su.live.toNat,src:=su.live.toNat,srch:=bk sb 198 (List.replicate su.live.toNat (.pointer none)),seats:=List.replicate su.live.toNat none
  tb:=tb,tx:=tx,hb:=hb,hx:=hx,mr:=mr,M:=M,rounds:=0,oa:=none,on:=0,oc:=0,och:=[]
  srow:=⟨by
   have e1:(List.map ptrS (List.replicate su.live.toNat none)).flatMap encP.f=List.replicate su.live.toNat (.pointer none):=by
    generalize su.live.toNat=n
    induction n with
    | zero=>rfl
    | succ n ih=>rw [List.replicate_succ,Jf,QO,ih];rfl
   rw [e1]
   have:=Sl.mk (T:=198) (sz:=1) sb su.live.toNat su.live.toNat [] (List.replicate su.live.toNat (.pointer none)) [] (by simp) (by simp) (JG _) (by omega)
   simpa using this⟩
  orow:=⟨Sl.nil⟩
  r0:=rfl
  r1:=hs
  r2:=ht
  r3:=by rw [hlv]at hh;exact hh
  r4:=by simp [Eng.new]
  ok:=hok}
 refine⟨bq,x0,rfl,rfl,rfl,hi.trans (Imp.trans ?_ (eShut (x:=x0)))⟩;have e1:zav x0.seats=[]:=by
  show zav (List.replicate su.live.toNat none)=[];generalize su.live.toNat=n
  induction n with
  | zero=>rfl
  | succ n ih=>rw [List.replicate_succ];show soC none++zav _=[];rw [ih];rfl
 dsimp only [zak];rw [e1];dsimp only [x0,zba,Eng.new,List.cons_append,List.nil_append];exact drp
instance c26 {su:Setup} {a:Option Addr} {n c:Nat} {ps:List PrM} [r:PrsR cs a n c ps]:Go1 (fn 26 [.agg ⟨suC su⟩,.slice a n c] K cs)
  ((∀p∈ps,p.Fit)∧(good su=false→K (.tuple ⟨[.pointer none,.int .i64 1]⟩) cs)∧(good su=true→64<n→K (.tuple ⟨[.pointer none,.int .i64 4]⟩) cs)∧(good su=true→n≤64→∀b x,En.m x=Eng.new su ps→K (.tuple ⟨[.pointer (some (ad b 0)),.int .i64 0]⟩) (engC b x::cs))):=⟨λ⟨hf,h1,h2,h3⟩=>up0 (f26 (by
 obtain⟨L,k1,k2,k3⟩:=r.h;have rw1:Rw 45 4 cs a n c encPr L:=⟨k1⟩;have hn:=k1.len;have hln:ps.length=n:=by rw [←k2,JR,hn]
 unfold s26;refine go λb1=>⟨λc1=>fin (h1 (by simpa using c1)),λc1=> ?_⟩;have hg:good su=true:=by simpa using c1
 have hgf:=zal hg;refine⟨λc2=>fin (h2 hg (by simp at c2;omega)),λc2=> ?_⟩;have hn64:n≤64:=by simp at c2;omega
 refine⟨λl cx=>∃(bq:Nat) (x0:En),l=[.pointer (some (ad bq 0))]∧x0.m=Eng.new su []∧x0.scs.c=0∧Imp cx (engC bq x0::bk b1 23 (suC su)::cs),?_,?_⟩
 ·rintro l cx ⟨bq,x0,rfl,hx0,hon,hi⟩;refine⟨_,hi,?_⟩;refine go ?_;refine lp (λy:Nat×Option Addr×Nat×Chunk×Chunk×List PrV=>[.int .i64 y.1])
   (λy=>y.2.2.2.1::bk bq 174 [.int .i64 x0.m.s.live,.int .i64 x0.m.s.ring,.int .i64 x0.m.s.win,.int .i64 x0.m.s.out,.int .i64 x0.m.s.quantum,.int .i64 x0.m.s.visits,.slice y.2.1 y.1 y.2.2.1,.pointer (some (ad x0.slb 0)),.slice x0.sra x0.sn x0.src,.pointer (some (ad x0.tb 0)),.pointer (some (ad x0.hb 0)),.map (some x0.mr),.int .i64 x0.m.clock,.int .i64 x0.rounds,.bool x0.m.drains,.bool x0.m.stopped,.slice x0.oa x0.on x0.oc]::y.2.2.2.2.1::za4 x0.slb x0.slx::x0.srch::za3 x0.tb x0.tx::hpC x0.hb x0.hx::mpC mvI x0.mr x0.M::x0.och::zav x0.seats::bk b1 23 (suC su)::cs)
   (λy=>y.1≤n∧Row 45 4 y.2.1 y.1 y.2.2.1 encPr y.2.2.2.2.2 y.2.2.2.1∧y.2.2.2.2.2.map Prod.fst=ps.take y.1∧∀x∈y.2.2.2.2.2,PrR [y.2.2.2.2.1] (za9 x.1 x.2.1 x.2.2.1 x.2.2.2) x.1) (λy=>n-y.1)
   (0,x0.scs.a,x0.scs.c,x0.scs.ch,[],[]) rfl ?_ ⟨JJ _,?_,rfl,by simp⟩ ?_
  ·have hz:x0.scs.n=0:=by
    have h0:=x0.r0;rw [hx0]at h0;obtain⟨L0,q1,q2,_⟩:=x0.scs.r.h;rw [q1.len]
    have:x0.scs.ps=[]:=h0
    rw [this]at q2;simpa using q2
   refine Imp.trans (eLay (x:=x0)) ?_;dsimp only [zak,zba,List.cons_append,List.nil_append];rw [hz];exact drp
  ·show Row 45 4 x0.scs.a 0 x0.scs.c encPr [] x0.scs.ch;rw [hon];exact⟨Sl.nil⟩
  rintro⟨i,a',c',rch,g,M⟩ ⟨i1,i2,i3,i4⟩;dsimp only at *;have hM:=i2.len;refine go ?_;simp only [JD,JB,JE];refine⟨λc0=>⟨by omega,λy hy b2=> ?_⟩,λc0=> ?_⟩
  ·have hyp:ps[i]? =some y.1:=by rw [←k2,JW,hy];rfl
   have rp:PrR cs (za9 y.1 y.2.1 y.2.2.1 y.2.2.2) y.1:=k3 y (JN hy);have hfy:=hf y.1 (JN hyp);rw [zae (by omega)];refine go ⟨hfy,λsc hsc=> ?_⟩;refine go ⟨by decide,λb3=>⟨⟨by omega,by omega⟩,(sc.p,sc.a,sc.n,sc.c),rfl,λa2 c2' ch2 r2=> ?_⟩⟩;refine go ⟨(i+1,a2,c2',ch2,sc.ch++g,M++[(sc.p,sc.a,sc.n,sc.c)]),rfl,drp,⟨by omega,r2,?_,λz hz=> ?_⟩,by simp only;omega⟩
   ·have hil:=zaa hyp;rw [QL,i3,JZ hil];rw [JC hil]at hyp;rw [JQ hyp,←hsc];rfl
   ·rcases JX.1 hz with hz | hz
    ·exact(i4 z hz).sub (λw hw=>by simp at hw ⊢;exact .inr hw)
    ·simp at hz;subst hz;exact sc.r.sub (λw hw=>by simp at hw ⊢;exact .inl hw)
  ·have e:i=n:=by omega
   subst e;have etk:ps.take i=ps:=by rw [←hln,QS]
   rw [etk]at i3;have rwm:Rw 45 4 [rch++g] a' i c' encPr M:=by
    have:Rw 45 4 [rch] a' i c' encPr M:=inferInstance
    exact⟨this.h.sub (λw hw=>by simp at hw ⊢;exact .inl hw)⟩
   have em:Eng.new su ps={x0.m with scripts:=ps}:=by rw [hx0];rfl
   let xF:En:={x0 with m:={x0.m with scripts:=ps},scs:=⟨ps,a',i,c',rch++g,⟨M,rwm.h,i3,λz hz=>(i4 z hz).sub (λw hw=>by simp at hw ⊢;exact .inr hw)⟩⟩,r0:=rfl,ok:=by rw [←em];exact zfn hg hf (by omega)}
   refine go ⟨_,?_,h3 hg hn64 bq xF em.symm⟩;refine Imp.trans ?_ (Imp.trans (eShut (b:=bq) (x:=xF) (F:=bk b1 23 (suC su)::cs)) drp);dsimp only [zak,zba,xF,List.cons_append,List.nil_append];exact drp
 ·refine go ?_
  repeat' (first | apply And.intro | intro _)
  all_goals first | omega | (refine z3f hg (by assumption) (by assumption) (by assumption) (by assumption) ?_;exact drp)))⟩
end
end Go.Proofs.YtbjlfobjngogkaaGreatDoor
namespace Go.Proofs.YtbjlfobjngogkaaGreatDoor
def Eng.those (e:Eng) (f:Dia→Nat):List Int:=e.slots.live.filter λid=>match e.slots.slot id with
 | none=>false
 | some k=>match e.seat k with
  | none=>false
  | some x=>0<f x.d
def Eng.writes (e:Eng):List Int:=e.those λd=>d.out.peek.size
def zwp (l:List (Int×Int)) (y:List (Int×Int)×Int) (id:Int):List (Int×Int)×Int:=
 (iset y.1 id (w64 ((iget l id).getD 0+1)),if w64 ((iget l id).getD 0+1)>y.2 then w64 ((iget l id).getD 0+1)else y.2)
def zcm (l:List (Int×Int)) (most:Int) (ids:List Int):List (Int×Int)×Int:=ids.foldl (zwp l) ([],most)
def wLeft (out:List EvM) (l:List Int):List Int:=out.foldl (λl x=>if x.kind=6 then l.filter (λi=>i≠x.id)else l) l
def gapV (a b:Int):Int:=if 0>w64 ((if 0>b then 0 else b)-if 0>a then 0 else a)then 0 else w64 ((if 0>b then 0 else b)-if 0>a then 0 else a)
def tick1 (y:Int×Int) (x:EvM):Int×Int:=if x.kind=1 then(if gapV y.2 x.tick>y.1 then gapV y.2 x.tick else y.1,x.tick)else y
def zbj (l:List EvM):Int:=(l.foldl tick1 (1,0)).1
structure FairM where
 e:Eng
 wl:List (Int×Int)
 wm:Int
 out:List EvM
def FairM.ids (f:FairM) (r:RoundM):List Int:=if r.abort then []else wLeft (f.e.round r).out f.e.writes
def FairM.round (f:FairM) (r:RoundM):FairM:=⟨f.e.round r,(zcm f.wl f.wm (f.ids r)).1,(zcm f.wl f.wm (f.ids r)).2,f.out++(f.e.round r).out⟩
def FairM.new (s:Setup) (ps:List PrM):FairM:=⟨Eng.new s ps,[],0,[]⟩
def FairM.run (s:Setup) (ps:List PrM) (rs:List RoundM):FairM:=rs.foldl FairM.round (FairM.new s ps)
end Go.Proofs.YtbjlfobjngogkaaGreatDoor
namespace Go.Proofs.YtbjlfobjngogkaaGreatDoor
open Go
set_option synthInstance.maxSize 100000
set_option synthInstance.maxHeartbeats 1000000
set_option maxRecDepth 100000
class EOne {α:Type} {sz:Nat} (e:Enc α sz):Prop where
 h:∀x,∀u∈e.f x,one u=true
instance:EOne zah:=⟨λx u hu=>by simp at hu;subst hu;rfl⟩
instance:EOne encEv:=⟨λx u hu=>by simp at hu;rcases hu with rfl | rfl | rfl | rfl | rfl | rfl | rfl | rfl | rfl | rfl | rfl | rfl <;>rfl⟩
instance (priority:=500) appRow {α:Type} {cs:St} {t ty T sz by_ n c n2 c2:Nat} {e:Enc α sz} {a a2:Option Addr} {l l2:List α} {ch:Chunk} {put:Chunk→St} {K:Value→SP} [p:SlcT t T sz by_] [r:Row T sz a n c e l ch] [at_:ChAt cs ch put] [r2:Rw T sz cs a2 n2 c2 e l2] [o1:EOne e]:
  Go1 (sm (Builtin.append_ ⟨[t,t]⟩ ty ⟨[.slice a n c,.slice a2 n2 c2]⟩) K cs)
   (((n+n2)*by_≤140737488355328∧n+n2≤9223372036854775807)∧∀a' c' ch',Row T sz a' (n+n2) c' e (l++l2) ch'→K (.slice a' (n+n2) c') (put ch')):=⟨λ⟨⟨h1,h2⟩,h⟩=>by
 obtain⟨k,hk,hput⟩:=at_.h;have hl:=r2.h.len;by_cases h0:n2=0
 ·subst h0;have hz:l2=[]:=List.length_eq_zero_iff.1 hl.symm;subst hz;refine zi3 p r.cap.1 ?_
  have:=h a c ch (by rw [Jj];exact r)
  rw [hput,zbt hk]at this;exact this
 ·obtain⟨b,rfl,hr⟩:=zdn r2.h (by omega);refine zkp k hk r.h (m:=n2) (news:=l2.flatMap e.f) (by rw [e.flat_len,←hl]) hr (λu hu=> ?_) (by omega) h1 h2 (λv' ch' hs=> ?_) p.h
  ·obtain⟨x,_,hx⟩:=List.mem_flatMap.1 hu;exact o1.h x u hx
  ·obtain⟨a',c',rfl⟩:=hs.val;rw [←hput];refine h a' c' ch' ⟨?_⟩;rw [QM];exact hs⟩
instance cvCap {cs:St} {K:Value→SP} {f:Nat} {c:Value} {args:List Value}:Go1 (cv (.func (.func f) ⟨[]⟩ ⟨[c]⟩) args K cs) (fn f (args++[c]) K cs):=⟨λh=>⟨f,⟨[]⟩,⟨[c]⟩,rfl,by simpa [fn]using h⟩⟩
instance cvPlain {cs:St} {K:Value→SP} {f:Nat} {args:List Value}:Go1 (cv (.func (.func f) ⟨[]⟩ ⟨[]⟩) args K cs) (fn f args K cs):=⟨λh=>⟨f,⟨[]⟩,⟨[]⟩,rfl,by simpa [fn]using h⟩⟩
class DlF (g:FuncId) (f:outParam (Dia→Nat)):Prop where
 h:∀{cs:St} {b:Nat} {x:Dl} {put:Chunk→St} {K:Value→SP} [Ob dialC cs b x put],K (.int .i64 (f x.d:Nat)) cs→fn g [.pointer (some (ad b 0))] K cs
instance:DlF 102 Dia.room:=⟨λ{cs b x put K} o h=>(c102 (o:=o)).h h⟩
instance:DlF 103 (λd=>d.out.peek.size):=⟨λ{cs b x put K} o h=>f103 (by unfold s103;exact go h)⟩
section
variable {cs:St} {b:Nat} {x:En} {put:Chunk→St} {K:Value→SP}
theorem z3s (o:Ob engC cs b x put) {F c:St} {v:Value} {ch:Chunk} (h:K v (ch::cs)) (hi:Imp c (ch::(zak b x++F))):∃front parts',Imp c (front++(parts'++F))∧K v (front++put parts'.flatten):=
 ⟨[ch],zak b x,hi,by have:=o.same;rw [show(zak b x).flatten=engC b x from rfl,this];exact h⟩
instance c29 [o:Ob engC cs b x put]:Go1 (fn 29 [.pointer (some (ad b 0))] K cs) (∀a n c ch,Row 3 1 a n c zah x.m.slots.live ch→K (.slice a n c) (ch::cs)):=⟨λh=>o.fnf (zak b x) rfl λF=>f29 (by
 unfold s29;simp only [zak,JI,JF];rw [←x.r1]at h;refine go λa n c ch r=> ?_;exact z3s o (h a n c ch r) (by dsimp only [zak,List.cons_append,List.nil_append];exact drp))⟩
theorem c101t {g:Nat} {f:Dia→Nat} [q:DlF g f] [o:Ob engC cs b x put] (h:∀a n c ch,Row 3 1 a n c zah (x.m.those f) ch→K (.slice a n c) (ch::cs)):fn 101 [.pointer (some (ad b 0)),.func (.func g) ⟨[]⟩ ⟨[]⟩] K cs:=o.fnf (zak b x) rfl λF=>f101 (by
 unfold s101;simp only [zak,JI,JF];have hll:=x.ok.live_le;refine go λal nl cl chl rl=> ?_;rw [x.r1]at rl;have hnl:=rl.len;generalize hp:(λid=>match x.m.slots.slot id with
  | none=>false
  | some k=>match x.m.seat k with
   | none=>false
   | some x=>decide (0<f x.d))=p
 have hth:x.m.those f=x.m.slots.live.filter p:=by rw [←hp];rfl
 refine lp (λy:Nat×Option Addr×Nat×Nat×Chunk=>[.slice y.2.1 y.2.2.1 y.2.2.2.1,.int .i64 y.1]) (λy=>engC b x::chl::y.2.2.2.2::F) (λy=>y.1≤nl∧Row 3 1 y.2.1 y.2.2.1 y.2.2.2.1 zah ((x.m.slots.live.take y.1).filter p) y.2.2.2.2) (λy=>nl-y.1)
  (0,none,0,0,[]) rfl (Imp.trans (by dsimp only [zak,List.cons_append,List.nil_append];exact drp) (Imp.trans (eShut (b:=b) (x:=x) (F:=chl::F)) drp)) ⟨JJ _,⟨Sl.nil⟩⟩ ?_
 rintro⟨i,a,n,c,ch⟩ ⟨i1,i2⟩;dsimp only at *;have hlen:=i2.len;have hfl:((x.m.slots.live.take i).filter p).length≤i:=Js (QQ _ _) (by rw [Jh];omega);refine go ?_;simp only [JD,JB,JE,id];refine⟨λc0=>⟨by omega,λid hid=> ?_⟩,λc0=> ?_⟩
 ·have hil:=zaa hid;have et:x.m.slots.live.take (i+1)=x.m.slots.live.take i++[id]:=by
   rw [JZ hil];rw [JC hil]at hid;rw [JQ hid]
  rw [zae (by omega)];obtain⟨k,y,hk,hyid⟩:=x.ok.sits_iff.1 (JN hid);have hslot:=x.ok.slot_of hk;rw [hyid]at hslot;obtain⟨sh,hg,hm⟩:=x.seat_iff.1 hk;refine⟨λhs=>absurd hs (by rw [hslot];simp),λk' sh' hs hg' hid'=> ?_⟩;rw [hslot]at hs;cases hs;rw [hg]at hg';cases hg';have rd:RdB (engC b x::chl::ch::F) sh.sb 197 (zib sh):=⟨by
   have:engC b x=(eFoc b x k sh).flatten:=(zdg hg).symm
   rw [this];exact Rd.in (i:=0) rfl (by simp [bk])⟩
  refine go ?_;refine zaj (cs':=eFoc b x k sh++(chl::ch::F)) (eLayF (b:=b) hg) ?_;simp only [JI,JF];refine DlF.h (g:=g) ?_;refine go ?_;have hpv:p id=decide (0<f sh.dl.d):=by
   rw [←hp];show(match x.m.slots.slot id with
    | none=>false
    | some k=>match x.m.seat k with
     | none=>false
     | some x=>decide (0<f x.d))=_
   rw [hslot];dsimp only;rw [hk,←hm];rfl
  have hi:∀{ch'},Imp (bk b 174 (zba x)::x.scs.ch::za4 x.slb x.slx::x.srch::za3 x.tb x.tx::hpC x.hb x.hx::mpC mvI x.mr x.M::x.och::zav (List.take k x.seats)::bk sh.sb 197 (zib sh)::dialC sh.db sh.dl::wireC sh.wb sh.wi::zav (List.drop (k+1) x.seats)::chl::ch'::F) (engC b x::chl::ch'::F):=zen (b:=b) hg;simp only [JD,JB];refine⟨λc1=>⟨⟨by omega,by omega,by omega⟩,id,rfl,λa' c' ch' r'=>⟨(i+1,a',n+1,c',ch'),rfl,hi,⟨by omega,?_⟩,by simp only;omega⟩⟩,λc1=>⟨(i+1,a,n,c,ch),rfl,hi,⟨by omega,?_⟩,by simp only;omega⟩⟩
  ·rw [et,List.filter_append,List.filter_cons,hpv,if_pos (by simpa using c1)];exact r'
  ·rw [et,List.filter_append,List.filter_cons,hpv,if_neg (by simpa using c1),List.filter_nil,Jj];exact i2
 ·have e:i=nl:=by omega
  subst e;rw [hnl,QS]at i2;rw [hth]at h;refine⟨[ch],zak b x,?_,?_⟩
  ·exact Imp.trans (Imp.trans (eLay (b:=b)) (by dsimp only [zak,List.cons_append,List.nil_append];exact drp)) (Imp.refl _)
  ·have:=o.same
   rw [show(zak b x).flatten=engC b x from rfl,this];exact h _ _ _ _ i2)
instance c32 [o:Ob engC cs b x put]:Go1 (fn 32 [.pointer (some (ad b 0))] K cs) (∀a n c ch,Row 3 1 a n c zah (x.m.those Dia.room) ch→K (.slice a n c) (ch::cs)):=⟨λh=>f32 (by
 unfold s32;exact c101t (f:=Dia.room) λa n c ch r=>go (h a n c ch r))⟩
instance c33 [o:Ob engC cs b x put]:Go1 (fn 33 [.pointer (some (ad b 0))] K cs) (∀a n c ch,Row 3 1 a n c zah x.m.writes ch→K (.slice a n c) (ch::cs)):=⟨λh=>f33 (by
 unfold s33;exact c101t (f:=λd=>d.out.peek.size) λa n c ch r=>go (h a n c ch r))⟩
end
section
variable {cs:St} {K:Value→SP} {a:Option Addr} {n c:Nat} {l:List Int}
instance c180 {q:Nat} {x:EvM} {i:Int} [r:RdB cs q 101 (zca x)]:Go1 (fn 180 [.int .i64 i,.pointer (some (ad q 0))] K cs) (K (.bool (i == x.id)) cs):=⟨λh=>f180 (by unfold s180;exact go h)⟩
instance c227r [r:Rw 3 1 cs a n c zah l] {v:Int}:Go1 (fn 227 [.slice a n c,.int .i64 v] K cs) (n≤4000000000000∧(v∈l→∀i:Nat,K (.int .i64 i) cs)∧(v∉l→K (.int .i64 (-1)) cs)):=⟨λ⟨hn,h1,h2⟩=>up0 (f227 (by
 unfold s227;have hl:=r.h.len;refine lp (λi:Nat=>[.int .i64 i]) (λ_=>cs) (λi=>i≤n∧v∉l.take i) (λi=>n-i) 0 rfl (Imp.refl _) ⟨JJ _,by simp⟩ ?_;rintro i ⟨i1,i2⟩;refine go ?_;simp only [JD,JB,Jd,JL,JE,id];refine⟨λc0=>⟨by omega,λy hy=>⟨λc1=> ?_,λc1=> ?_⟩⟩,λc0=> ?_⟩
 ·exact⟨cs,Imp.refl _,h1 (c1▸JN hy) i⟩
 ·refine⟨i+1,by rw [zae (by omega)],Imp.refl _,⟨by omega,?_⟩,by omega⟩;have hil:=zaa hy;rw [JZ hil,JX];rw [JC hil]at hy;rw [JQ hy];rintro(hm | hm)
  ·exact i2 hm
  ·simp at hm;exact c1 hm
 ·have e:i=n:=by omega
  subst e;rw [hl,QS]at i2;exact⟨cs,Imp.refl _,h2 i2⟩))⟩
instance c270 [r:Rw 3 1 cs a n c zah l] {v:Int}:Go1 (fn 270 [.slice a n c,.int .i64 v] K cs) (n≤4000000000000∧K (.bool (decide (v∈l))) cs):=⟨λ⟨hn,h⟩=>f270 (by
 unfold s270;refine go ⟨hn,λhm i=> ?_,λhm=> ?_⟩
 ·rw [decide_eq_true hm]at h;rw [decide_eq_true (by omega)];exact h
 ·rw [decide_eq_false hm]at h;exact h)⟩
theorem zero3:zeroT 3=some (.int .i64 0):=by kernel_rfl
theorem slc34:∃inf,Tryz.prog.underlying 34=some (.slice 3)∧Tryz.prog.info? 3=some inf∧inf.zero=some (.int .i64 0):=by
 obtain⟨inf,z,hu,hinf,hsz,hby,hz,hzs,h0⟩:=zb0 (t:=34) (e:=3) (sz:=1) (bytes:=8) (by kernel_rfl)
 have:=zin hinf hz
 rw [zero3]at this;exact⟨inf,hu,hinf,by rw [hz,←this]⟩
theorem z2j (k:Nat):(Builtin.zeroCells (Value.int .i64 0).cells k).toList=(List.replicate k (0:Int)).flatMap zah.f:=by
 have e:∀k,(List.replicate k (0:Int)).flatMap zah.f=List.replicate k (.int .i64 0):=λk=>by
  induction k with
  | zero=>rfl
  | succ k ih=>rw [List.replicate_succ,QO,ih];rfl
 rw [e];unfold Builtin.zeroCells;show((Array.range (k*1)).map λi=>(#[Value.int .i64 0]:Array Value)[i % 1]!).toList=_;apply List.ext_getElem
 ·simp
 ·intro i h1 h2;simp [Nat.mod_one]
theorem zso (k:Nat):(List.replicate k (0:Int)).flatMap zah.f=(Builtin.zeroCells (Value.int .i64 0).cells k).toList:=(z2j k).symm
theorem clr34 {X:SP} {ch:Chunk} {k:Nat} {sl:Value} (r:Row 3 1 a n c zah l ch) (hk:k≤n) (hs:sl= .slice (if c=k then a else a.map (·.add (k*1))) (n-k) (c-k)) (h:∀ch',Row 3 1 a n c zah (l.take k++List.replicate (n-k) 0) ch'→X (ch'::cs)):
  sm (Builtin.clear_ ⟨[34]⟩ 0 ⟨[sl]⟩) (λv=>unV v λ_=>X) (ch::cs):=by
 subst hs;obtain⟨inf,hu,hinf,hz⟩:=slc34;have hlen:=r.len;have hrun:∀w,(zeroValue 3).run Tryz.prog w= .ok (.int .i64 0) w:=λw=>zd7 (zin hinf hz);by_cases h0:n-k=0
 ·refine⟨λE w hw=>⟨.tuple #[],w,ch::cs,?_,hw,_,rfl,?_⟩⟩
  ·rw [h0];cases(if c=k then a else a.map (·.add (k*1))) <;>simp [Builtin.clear_,zaf hu]
  ·refine h ch ?_;rw [h0,List.replicate_zero,Jj,List.take_of_length_le (by omega)];exact r
 ·rcases r.h.inv with ⟨h1,h2,_⟩ | ⟨b,cap,pre,tail,h1,h2,h3,h4,h5,h6⟩
  ·omega
  ·cases h1;rw [if_neg (by omega)];obtain⟨d,hd⟩:∃d,n-k=d+1:=⟨n-k-1,by omega⟩;have e1:pre++l.flatMap zah.f++tail=(pre++(l.take k).flatMap zah.f)++((l.drop k).flatMap zah.f++tail):=by
    have:l.flatMap zah.f=(l.take k).flatMap zah.f++(l.drop k).flatMap zah.f:=by rw [←QM,Jx]
    rw [this];simp
   have e2:(pre++(l.take k).flatMap zah.f).length=pre.length+k*1:=by rw [JH,zah.flat_len,Jh];congr 2;omega
   refine⟨λE w hw=> ?_⟩;obtain⟨w',r1,r2⟩:=zdm (b:=b) (off:=pre.length+k*1) (T:=3) (E:=E) ((List.replicate (n-k) (0:Int)).flatMap zah.f) 0 0 (ch::cs) _ w (by rw [h2];rfl) (λv hv=>by
    obtain⟨y,_,hy⟩:=List.mem_flatMap.1 hv;simp at hy;subst hy;rfl) (by
    rw [zah.flat_len,QG,Nat.add_zero];simp only [JH];rw [h3];omega) hw
   refine⟨.tuple #[],w',_,?_,r2,_,rfl,?_⟩
   ·rw [zso,Nat.mul_one]at r1;rw [hd]at r1 ⊢;simp only [Option.map,zbd];simp [Builtin.clear_,zaf hu,hrun,Result.andThen,r1]
   ·rw [Nat.add_zero,e1,←e2,zj8 _ _ _ _ (by rw [zah.flat_len,zah.flat_len,QG,Jb];congr 1;omega)];refine h _ ⟨?_⟩;have e3:(pre++(l.take k).flatMap zah.f)++((List.replicate (n-k) (0:Int)).flatMap zah.f++tail)=pre++(l.take k++List.replicate (n-k) 0).flatMap zah.f++tail:=by rw [QM];simp
    rw [e3];have e4:((l.take k++List.replicate (n-k) (0:Int)).flatMap zah.f).length=n*1:=by rw [zah.flat_len,JH,Jh,QG];congr 1;omega
    exact Sl.mk b n c pre _ tail e4 (by rw [e4];rw [h3]at h4;exact h4) h5 h6
structure Hold (P:Prop):Prop where
 h:P
instance (priority:=6000) clrTail {X:SP} {ch:Chunk} {lo:Int} [r:Row 3 1 a n c zah l ch]:
  Go1 (qy (Instr.sliceAt 34 (.slice a n c) (some (.int .i64 lo)) none none) (λv=>unL v λa' n' c'=>sm (Builtin.clear_ ⟨[34]⟩ 0 ⟨[.slice a' n' c']⟩) λv=>unV v λ_=>X) (ch::cs))
   ((0≤lo∧lo≤n)∧∀ch',Row 3 1 a n c zah (l.take lo.toNat++List.replicate (n-lo.toNat) 0) ch'→Hold (X (ch'::cs))):=⟨λ⟨h1,h⟩=>by
 have hc:=r.cap;refine zgp (lo:=some (.int .i64 lo)) (hi:=none) (x:=lo.toNat) (y:=n) (sz:=1) rfl ⟨.i64,by congr 1;omega⟩ (by omega) (by omega) ?_ (by kernel_rfl);exact⟨_,_,_,rfl,clr34 r (by omega) rfl λch' r'=>(h ch' r').h⟩⟩
theorem c273t {q:Nat} {x:EvM} {fv:Value} (hfv:fv= .func (.func 180) ⟨[]⟩ ⟨[.pointer (some (ad q 0))]⟩) (r:Rw 3 1 cs a n c zah l) (rq:RdB cs q 101 (zca x)) (hn:n≤4000000000000)
  (h1:x.id∉l→K (.int .i64 (-1)) cs) (h2:∀i:Nat,x.id∉l.take i→l[i]? =some x.id→K (.int .i64 i) cs):fn 273 [.slice a n c,fv] K cs:=up0 (f273 (by
 subst hfv;unfold s273;have hl:=r.h.len;refine lp (λi:Nat=>[.int .i64 i]) (λ_=>cs) (λi=>i≤n∧x.id∉l.take i) (λi=>n-i) 0 rfl (Imp.refl _) ⟨JJ _,by simp⟩ ?_;rintro i ⟨i1,i2⟩;refine go ?_;simp only [JD,JB,Jd,JL,JE,id,JI,JF];refine⟨λc0=>⟨by omega,λy hy=> ?_⟩,λc0=> ?_⟩
 ·refine go ⟨λc1=> ?_,λc1=> ?_⟩
  ·have c1':y=x.id:=by simpa using c1
   subst c1';exact⟨cs,Imp.refl _,h2 i i2 hy⟩
  ·refine⟨i+1,by rw [zae (by omega)],Imp.refl _,⟨by omega,?_⟩,by omega⟩;have hil:=zaa hy;rw [JZ hil,JX];rw [JC hil]at hy;rw [JQ hy];rintro(hm | hm)
   ·exact i2 hm
   ·simp at hm;rw [hm]at c1;simp at c1
 ·have e:i=n:=by omega
  subst e;rw [hl,QS]at i2;exact⟨cs,Imp.refl _,h1 i2⟩))
theorem c182t {q:Nat} {x:EvM} {ch:Chunk} (r:Row 3 1 a n c zah l ch) (rq:RdB cs q 101 (zca x)) (hn:n≤4000000000000)
  (h:∀n' c' ch',Row 3 1 a n' c' zah (l.filter λi=>i≠x.id) ch'→K (.slice a n' c') (ch'::cs)):fn 182 [.slice a n c,.func (.func 180) ⟨[]⟩ ⟨[.pointer (some (ad q 0))]⟩] K (ch::cs):=up0 (f182 (by
 unfold s182;have hl:=r.len;have hc:=r.cap;have rq1:∀ch',RdB (ch'::cs) q 101 (zca x):=λch'=>inferInstance;refine c273t (x:=x) rfl inferInstance (rq1 _) hn (λhm=> ?_) (λm hm hg=> ?_)
 ·have e:l.filter (λi=>i≠x.id)=l:=List.filter_eq_self.2 λy hy=>by simp;rintro rfl;exact hm hy
  rw [e]at h;refine go ⟨λ_=>fin (h _ _ _ r),λc0=>absurd c0 (by decide)⟩
 ·have hml:=zaa hg;refine go ⟨λc0=>absurd (Jd.1 c0) (by omega),λ_=> ?_⟩;have e0:(l.take m).filter (λi=>i≠x.id)=l.take m:=List.filter_eq_self.2 λy hy=>by simp;rintro rfl;exact hm hy
  rw [zae (by omega)];refine lp (λy:Nat×Nat×List Int×Chunk=>[.int .i64 y.1,.int .i64 y.2.1]) (λy=>y.2.2.2::cs)
   (λy=>y.2.1≤n∧y.1<y.2.1∧Row 3 1 a n c zah y.2.2.1 y.2.2.2∧y.2.2.1.take y.1=(l.take y.2.1).filter (λi=>i≠x.id)∧y.1=((l.take y.2.1).filter (λi=>i≠x.id)).length∧y.2.2.1.drop y.2.1=l.drop y.2.1) (λy=>n-y.2.1)
   (m,m+1,l,ch) rfl (Imp.refl _) ⟨by simp only;omega,by simp only;omega,r,?_,?_,rfl⟩ ?_
  ·simp only;rw [JZ hml,List.filter_append,e0];rw [JC hml]at hg;rw [JQ hg];simp
  ·simp only;rw [JZ hml,List.filter_append,e0];rw [JC hml]at hg;rw [JQ hg];simp;omega
  rintro⟨i,j,R,ch1⟩ ⟨i1,i2,i3,i4,i5,i6⟩;dsimp only at *;have hR:=i3.len;have rq2:=rq1 ch1;refine go ?_;simp only [JD,JB,JE,id,JI,JF];refine⟨λc0=>⟨by omega,λy hy=> ?_⟩,λc0=> ?_⟩
  ·have hjl:j<l.length:=by omega
   have hyl:l[j]=y:=by
    have:=congrArg (λl=>l[0]?) i6
    simp only [QP,Nat.add_zero]at this;rw [hy,JC hjl]at this;exact(JQ this).symm
   have et:l.take (j+1)=l.take j++[y]:=by rw [JZ hjl,hyl]
   have ed:∀R':List Int,R'.drop j=R.drop j→R'.drop (j+1)=l.drop (j+1):=λR' he=>by
    rw [←Qf (i:=1) (j:=j),he,i6,Qf]
   rw [zae (by omega),zae (by omega)];refine go ⟨λc1=> ?_,λc1=> ?_⟩
   ·have c1':y≠x.id:=by simpa using c1
    refine⟨⟨by omega,by omega⟩,y,rfl,λch' r'=>⟨(i+1,j+1,R.set i y,ch'),rfl,Imp.refl _,⟨by simp only;omega,by simp only;omega,by simpa using r',?_,?_,?_⟩,by simp only;omega⟩⟩
    ·simp only;rw [et,List.filter_append,←i4]
     have:((R.set i y).take (i+1))=R.take i++[y]:=by
      rw [JZ (by rw [JK];omega),List.getElem_set_self,List.take_set_of_le (JG _)]
     rw [this];simp [c1']
    ·simp only;rw [et,List.filter_append,JH,←i5];simp [c1']
    ·simp only;refine ed _ ?_;rw [List.drop_set_of_lt i2]
   ·have c1':y=x.id:=by simpa using c1
    refine⟨(i,j+1,R,ch1),rfl,Imp.refl _,⟨by simp only;omega,by simp only;omega,i3,?_,?_,ed _ rfl⟩,by simp only;omega⟩
    ·simp only;rw [et,List.filter_append,i4];simp [c1']
    ·simp only;rw [et,List.filter_append,JH,←i5];simp [c1']
  ·have e:j=n:=by omega
   subst e;rw [hl,QS]at i4 i5;refine⟨⟨by omega,by omega⟩,λch' r'=>⟨?_⟩⟩;clear i3;refine go ⟨⟨by omega,by omega⟩,λr2=> ?_⟩;rw [JE]at r2;have e9:(R.take i++List.replicate (j-i) 0).take i=l.filter (λi=>i≠x.id):=by
    rw [List.take_append_of_le_length (by rw [Jh];omega),List.take_take,Nat.min_self,i4]
   rw [e9]at r2;exact fin (h _ _ _ r2)))
end
end Go.Proofs.YtbjlfobjngogkaaGreatDoor
