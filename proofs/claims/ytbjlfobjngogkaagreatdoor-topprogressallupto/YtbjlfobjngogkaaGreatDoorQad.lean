/- Part of a proof over this seat: contracts of functions and plain laws, joined by program out of smaller texts. Conditions: those that each theorem states. -/
import Derived.Test.YtbjlfobjngogkaaGreatDoorQac
import Derived.Shelf.SlIterI.Nil
import Derived.Shelf.SortM.Plain
import Derived.Shelf.SortM.SortNone
import Derived.Shelf.Slices.CompactI
import Derived.Test.YtbjlfobjngogkaaGreatDoorProg
namespace Go.Proofs.YtbjlfobjngogkaaGreatDoor
open Go
set_option synthInstance.maxSize 100000
set_option synthInstance.maxHeartbeats 1000000
set_option maxRecDepth 100000
@[reducible] def encE:Enc (Int×Int) 2:=⟨fun x=>[.int .i64 x.1,.int .i64 x.2],by omega,fun _=>rfl⟩
instance:FdI encE 1 .i64 (fun x=>x.2):=⟨fun _=>rfl⟩
def cmpI (a b:Int):Int:=if a<b then -1 else if a>b then 1 else 0
def ordI (x y:Int×Int):Int:=if cmpI x.1 y.1≠0 then cmpI x.1 y.1 else cmpI x.2 y.2
theorem ord_le (x y:Int×Int):ordI x y≤0↔lexle x y:=by unfold ordI cmpI lexle;repeat' split <;>omega
theorem ord_lt (x y:Int×Int):ordI x y<0↔¬lexle y x:=by unfold ordI cmpI lexle;repeat' split <;>omega
section
variable {cs:St} {K:Value→SP}
instance c350 {a:Int}:Go1 (fn 350 [.int .i64 a] K cs) (K (.bool false) cs):=⟨fun h=>f350 (keq h (by simp))⟩
instance c351 {a:Int}:Go1 (fn 351 [.int .i64 a] K cs) (K (.bool false) cs):=⟨fun h=>f351 (keq h (by simp))⟩
instance c268 {a b:Int}:Go1 (fn 268 [.int .i64 a,.int .i64 b] K cs) (K (.int .i64 (cmpI a b)) cs):=⟨fun h=>f268 (by
 unfold s268;refine go ?_
 refine⟨fun c=>keq h ?_,fun c=>⟨fun c2=>keq h ?_,fun c2=>keq h ?_⟩⟩ <;>simp_all [cmpI] <;>omega)⟩
instance c269 {a b:Int}:Go1 (fn 269 [.int .i64 a,.int .i64 b] K cs) (K (.int .i64 (cmpI a b)) cs):=⟨fun h=>f269 (by
 unfold s269;refine go ?_
 refine⟨fun c=>keq h ?_,fun c=>⟨fun c2=>keq h ?_,fun c2=>keq h ?_⟩⟩ <;>simp_all [cmpI] <;>omega)⟩
instance c267 {b m:Nat} {T:TypeId} {x y:Int} [r:RdB cs b T [.int .i64 x,.int .i64 y]]:Go1 (fn 267 [.slice (some (ad b 0)) 2 m] K cs) (K (.int .i64 (if x≠0 then x else y)) cs):=⟨fun h=>f267 (by
 have r2:RdB cs b T (List.map (Value.int .i64) [x,y]):=⟨r.h⟩
 refine lp (fun i:Nat=>[.int .i64 i]) (fun _=>cs) (fun i=>i≤2∧(0<i→x=0)∧(1<i→y=0)) (fun i=>2-i) 0 rfl (Imp.refl _) (by simp) ?_
 rintro i ⟨hi,h1,h2⟩
 refine go ?_
 simp only [decide_eq_true_eq,decide_eq_false_iff_not,bne_iff_ne,ne_eq,bne_eq_false_iff_eq,Int.toNat_natCast]
 refine⟨fun c=>⟨⟨by omega,by omega⟩,by simp;omega,fun c1=>keq h ?_,fun c1=>⟨i+1,by rw [w64_id (by omega)];simp,Imp.refl _,?_,by omega⟩⟩,fun c=>keq h ?_⟩
 ·match i,c with
  | 0,_=>simp at c1;simp [c1]
  | 1,_=>simp at c1;simp [h1 (by omega)]
  | i+2,c=>omega
 ·match i,c with
  | 0,_=>simp at c1;exact⟨by omega,fun _=>c1,fun hh=>by omega⟩
  | 1,_=>simp at c1;exact⟨by omega,fun _=>h1 (by omega),fun _=>c1⟩
  | i+2,c=>omega
 ·simp [h1 (by omega),h2 (by omega)])⟩
instance c173 {x y:Int×Int}:Go1 (fn 173 [.agg ⟨[.int .i64 x.1,.int .i64 x.2]⟩,.agg ⟨[.int .i64 y.1,.int .i64 y.2]⟩] K cs) (K (.int .i64 (ordI x y)) cs):=⟨fun h=>up0 (f173 (by
 unfold s173;refine go ?_;intro b1 b2
 refine⟨by omega,fun b3=>fin h⟩))⟩
end
structure Cns (L:List (Int×Int)) (W tm:List Int):Prop where
 c1:∀(i:Nat) x,L[i]? =some x→0≤x.2∧x.2<W.length∧W.getD x.2.toNat 0=i∧tm.getD x.2.toNat 0=x.1∧0≤x.1∧x.1<never
 c2:∀k,k<W.length→W.getD k 0= -1∨∃(i:Nat) (x:Int×Int),W.getD k 0=i∧L[i]? =some x∧x.2=k
 c3:∀k,k<W.length→W.getD k 0= -1→tm.getD k 0=never
 tl:tm.length=W.length
theorem Cns.inj {L:List (Int×Int)} {W tm:List Int} (h:Cns L W tm) {i j:Nat} {x y:Int×Int} (hi:L[i]? =some x) (hj:L[j]? =some y) (e:x.2=y.2):i=j:=by
 have h1:=(h.c1 i x hi).2.2.1
 have h2:=(h.c1 j y hj).2.2.1
 rw [e]at h1
 omega
theorem Cns.same {L:List (Int×Int)} {W tm:List Int} (h:Cns L W tm) {i:Nat} {x:Int×Int} (hi:L[i]? =some x):W.set x.2.toNat i=W:=by
 have ce:=h.c1 i x hi
 refine set_same ?_
 have hlt:x.2.toNat<W.length:=by omega
 rw [List.getElem?_eq_getElem hlt]
 have:=ce.2.2.1
 rw [List.getD_eq_getElem?_getD,List.getElem?_eq_getElem hlt]at this
 exact congrArg some this
theorem Cns.move {L:List (Int×Int)} {W tm:List Int} (h:Cns L W tm) {i p:Nat} {x y:Int×Int} (hi:L[i]? =some x) (hp:L[p]? =some y) (hne:i≠p):
  Cns ((L.set i y).set p x) ((W.set y.2.toNat i).set x.2.toNat p) tm:=by
 have a1:=h.c1 i x hi
 have a2:=h.c1 p y hp
 have hxy:x.2≠y.2:=fun e=>hne (h.inj hi hp e)
 have li:=lt_of_get hi
 have lp:=lt_of_get hp
 have gw:∀k,((W.set y.2.toNat i).set x.2.toNat p).getD k 0=if x.2.toNat=k then(p:Int)else if y.2.toNat=k then(i:Int)else W.getD k 0:=fun k=>by
  rw [getD_set' _ _ _ _ _ (by simp;omega),getD_set' _ _ _ _ _ (by omega)]
 have gl:∀j:Nat,((L.set i y).set p x)[j]? =if p=j then some x else if i=j then some y else L[j]?:=fun j=>by
  rw [List.getElem?_set,List.getElem?_set]
  by_cases c1:p=j
  ·rw [if_pos c1,if_pos c1,if_pos (by simp;omega)]
  ·rw [if_neg c1,if_neg c1]
   by_cases c2:i=j
   ·rw [if_pos c2,if_pos c2,if_pos (by omega)]
   ·rw [if_neg c2,if_neg c2]
 refine⟨fun j z hj=> ?_,fun k hk=> ?_,fun k hk=> ?_,by simp [h.tl]⟩
 ·rw [gl]at hj
  simp only [List.length_set]
  rw [gw]
  by_cases c1:p=j
  ·rw [if_pos c1]at hj;cases hj
   exact⟨a1.1,a1.2.1,by rw [if_pos rfl,c1],a1.2.2.2⟩
  ·rw [if_neg c1]at hj
   by_cases c2:i=j
   ·rw [if_pos c2]at hj;cases hj
    exact⟨a2.1,a2.2.1,by rw [if_neg (by omega),if_pos rfl,c2],a2.2.2.2⟩
   ·rw [if_neg c2]at hj
    have a3:=h.c1 j z hj
    have n1:z.2≠x.2:=fun e=>c2 (h.inj hi hj e.symm)
    have n2:z.2≠y.2:=fun e=>c1 (h.inj hp hj e.symm)
    exact⟨a3.1,a3.2.1,by rw [if_neg (by omega),if_neg (by omega)];exact a3.2.2.1,a3.2.2.2⟩
 ·simp only [List.length_set]at hk
  rw [gw]
  by_cases c1:x.2.toNat=k
  ·exact .inr ⟨p,x,by rw [if_pos c1],by rw [gl,if_pos rfl],by omega⟩
  ·rw [if_neg c1]
   by_cases c2:y.2.toNat=k
   ·exact .inr ⟨i,y,by rw [if_pos c2],by rw [gl,if_neg (Ne.symm hne),if_pos rfl],by omega⟩
   ·rw [if_neg c2]
    rcases h.c2 k hk with h1 | ⟨j,z,h1,h2,h3⟩
    ·exact .inl h1
    ·refine .inr ⟨j,z,h1,?_,h3⟩
     have n1:p≠j:=fun e=>by subst e;rw [hp]at h2;cases h2;omega
     have n2:i≠j:=fun e=>by subst e;rw [hi]at h2;cases h2;omega
     rw [gl,if_neg n1,if_neg n2];exact h2
 ·simp only [List.length_set]at hk
  rw [gw]
  intro e
  split at e
  ·omega
  ·split at e
   ·omega
   ·exact h.c3 k hk e
abbrev par (j:Nat):Nat:=(j-1) / 2
def Hord (L:List (Int×Int)):Prop:=∀(j:Nat) (x y:Int×Int),0<j→L[j]? =some x→L[par j]? =some y→lexle y x
structure Semi (L:List (Int×Int)) (i:Nat):Prop where
 s1:∀(j:Nat) (x y:Int×Int),0<j→j≠i→par j≠i→L[j]? =some x→L[par j]? =some y→lexle y x
 s2:∀(j:Nat) (x y:Int×Int),0<j→par j=i→0<i→L[j]? =some x→L[par i]? =some y→lexle y x
def Above (L:List (Int×Int)) (i:Nat):Prop:=∀x y:Int×Int,0<i→L[i]? =some x→L[par i]? =some y→lexle y x
theorem lexle_trans {x y z:Int×Int} (h:lexle x y) (h':lexle y z):lexle x z:=by unfold lexle at *;omega
theorem lexle_total {x y:Int×Int} (h:¬lexle x y):lexle y x:=by unfold lexle at *;omega
theorem lexle_refl (x:Int×Int):lexle x x:=by unfold lexle;omega
theorem Hord.semi {L:List (Int×Int)} (h:Hord L) {i:Nat} (x:Int×Int):Semi (L.set i x) i:=by
 refine⟨fun j a b hj h1 h2 ha hb=> ?_,fun j a b hj h1 h2 ha hb=> ?_⟩
 ·rw [List.getElem?_set_ne (Ne.symm h1)]at ha
  rw [List.getElem?_set_ne (Ne.symm h2)]at hb
  exact h j a b hj ha hb
 ·have n1:i≠j:=by unfold par at h1;omega
  have n2:i≠par i:=by unfold par;omega
  rw [List.getElem?_set_ne n1]at ha
  rw [List.getElem?_set_ne n2]at hb
  have hi:i<L.length:=by have:=lt_of_get ha;unfold par at h1;omega
  exact lexle_trans (h i _ b h2 (List.getElem?_eq_getElem hi) hb) (h j a _ hj ha (by rw [h1];exact List.getElem?_eq_getElem hi))
theorem Semi.hord {L:List (Int×Int)} {i:Nat} (h:Semi L i) (ha:Above L i) (hb:∀(j:Nat) (x y:Int×Int),0<j→par j=i→L[j]? =some x→L[i]? =some y→lexle y x):Hord L:=by
 intro j x y hj hx hy
 by_cases c1:j=i
 ·subst c1;exact ha x y hj hx hy
 ·by_cases c2:par j=i
  ·exact hb j x y hj c2 hx (c2▸hy)
  ·exact h.s1 j x y hj c1 c2 hx hy
theorem swap_get {L:List (Int×Int)} {i p:Nat} {x y:Int×Int} (hi:L[i]? =some x) (hp:L[p]? =some y) (j:Nat):((L.set i y).set p x)[j]? =if p=j then some x else if i=j then some y else L[j]?:=by
 have li:=lt_of_get hi
 have lp:=lt_of_get hp
 rw [List.getElem?_set,List.getElem?_set]
 by_cases c1:p=j
 ·rw [if_pos c1,if_pos c1,if_pos (by simp;omega)]
 ·rw [if_neg c1,if_neg c1]
  by_cases c2:i=j
  ·rw [if_pos c2,if_pos c2,if_pos (by omega)]
  ·rw [if_neg c2,if_neg c2]
theorem Semi.up {L:List (Int×Int)} {i:Nat} {x y:Int×Int} (h:Semi L i) (h0:0<i) (hi:L[i]? =some x) (hp:L[par i]? =some y) (_hlt:¬lexle y x):Semi ((L.set i y).set (par i) x) (par i):=by
 have hne:i≠par i:=by unfold par;omega
 have g:=fun j=>swap_get hi hp j
 refine⟨fun j a b hj h1 h2 ha hb=> ?_,fun j a b hj h1 h2 ha hb=> ?_⟩
 ·rw [g,if_neg (Ne.symm h1)]at ha
  rw [g,if_neg (Ne.symm h2)]at hb
  by_cases c1:i=j
  ·subst c1;exact absurd rfl h2
  ·rw [if_neg c1]at ha
   by_cases c2:i=par j
   ·rw [if_pos c2]at hb;cases hb
    exact h.s2 j a y hj c2.symm h0 ha hp
   ·rw [if_neg c2]at hb
    exact h.s1 j a b hj (Ne.symm c1) (Ne.symm c2) ha hb
 ·have n2:par i≠par (par i):=by unfold par at *;omega
  have n3:i≠par (par i):=by unfold par at *;omega
  rw [g,if_neg n2,if_neg n3]at hb
  have hpp:lexle b y:=h.s1 (par i) y b h2 (Ne.symm hne) (Ne.symm n3) hp hb
  have n1:par i≠j:=by unfold par at *;omega
  rw [g,if_neg n1]at ha
  by_cases c1:i=j
  ·rw [if_pos c1]at ha;cases ha;exact hpp
  ·rw [if_neg c1]at ha
   exact lexle_trans hpp (h.s1 j a y hj (Ne.symm c1) (by rw [h1];exact Ne.symm hne) ha (by rw [h1];exact hp))
def Kids (L:List (Int×Int)) (i:Nat):Prop:=∀(j:Nat) (x y:Int×Int),0<j→par j=i→L[j]? =some x→L[i]? =some y→lexle y x
theorem Semi.upKids {L:List (Int×Int)} {i:Nat} {x y:Int×Int} (h:Semi L i) (h0:0<i) (hi:L[i]? =some x) (hp:L[par i]? =some y) (hlt:¬lexle y x):Kids ((L.set i y).set (par i) x) (par i):=by
 have hne:i≠par i:=by unfold par;omega
 have g:=fun j=>swap_get hi hp j
 intro j a b hj h1 ha hb
 rw [g,if_pos rfl]at hb;cases hb
 have n1:par i≠j:=by unfold par at *;omega
 rw [g,if_neg n1]at ha
 by_cases c1:i=j
 ·rw [if_pos c1]at ha;cases ha;exact lexle_total hlt
 ·rw [if_neg c1]at ha
  exact lexle_trans (lexle_total hlt) (h.s1 j a y hj (Ne.symm c1) (by rw [h1];exact Ne.symm hne) ha (by rw [h1];exact hp))
theorem Semi.down {L:List (Int×Int)} {i m:Nat} {x y:Int×Int} (h:Semi L i) (hm:par m=i) (m0:0<m) (hi:L[i]? =some x) (hy:L[m]? =some y) (hlt:¬lexle x y)
  (hmin:∀(j:Nat) (z:Int×Int),0<j→par j=i→L[j]? =some z→lexle y z):Semi ((L.set i y).set m x) m∧Above ((L.set i y).set m x) m:=by
 have hne:i≠m:=by unfold par at hm;omega
 have g:=fun j=>swap_get hi hy j
 refine⟨⟨fun j a b hj h1 h2 ha hb=> ?_,fun j a b hj h1 h2 ha hb=> ?_⟩,fun a b h1 ha hb=> ?_⟩
 ·rw [g,if_neg (Ne.symm h1)]at ha
  rw [g,if_neg (Ne.symm h2)]at hb
  by_cases c1:i=j
  ·subst c1
   rw [if_pos rfl]at ha;cases ha
   have n:i≠par i:=by unfold par;omega
   rw [if_neg n]at hb
   exact h.s2 m y b m0 hm hj hy hb
  ·rw [if_neg c1]at ha
   by_cases c2:i=par j
   ·rw [if_pos c2]at hb;cases hb
    exact hmin j a hj c2.symm ha
   ·rw [if_neg c2]at hb
    exact h.s1 j a b hj (Ne.symm c1) (Ne.symm c2) ha hb
 ·have n1:m≠j:=by unfold par at *;omega
  have n2:i≠j:=by unfold par at *;omega
  rw [g,if_neg n1,if_neg n2]at ha
  rw [g,hm,if_neg (Ne.symm hne),if_pos rfl]at hb
  cases hb
  exact h.s1 j a y hj (Ne.symm n2) (by rw [h1];exact Ne.symm hne) ha (by rw [h1];exact hy)
 ·rw [g,if_pos rfl]at ha;cases ha
  rw [g,hm,if_neg (Ne.symm hne),if_pos rfl]at hb;cases hb
  exact lexle_total hlt
structure HpW where
 a:Option Addr
 c:Nat
 ch:Chunk
 bw:Nat
 l:List (Int×Int)
 wh:List Int
 row:Row 191 2 a l.length c encE l ch
 hl:wh.length≤1024
def hpC (b:Nat) (w:HpW):Chunk:=bk b 266 [.slice w.a w.l.length w.c,.slice (some (ad w.bw 0)) w.wh.length w.wh.length]++(w.ch++bk w.bw 3 (List.map (Value.int .i64) w.wh))
structure HpI (w:HpW) (tm:List Int):Prop where
 cns:Cns w.l w.wh tm
 ord:Hord w.l
theorem Cns.len {L:List (Int×Int)} {W tm:List Int} (h:Cns L W tm):L.length≤W.length:=by
 have hn:(L.map fun x=>x.2.toNat).Nodup:=by
  refine List.pairwise_iff_getElem.2 fun i j hi hj hij e=> ?_
  simp only [List.length_map]at hi hj
  simp only [List.getElem_map]at e
  have h1:=h.c1 i _ (List.getElem?_eq_getElem hi)
  have h2:=h.c1 j _ (List.getElem?_eq_getElem hj)
  have:=h.inj (List.getElem?_eq_getElem hi) (List.getElem?_eq_getElem hj) (by omega)
  omega
 have:=nodup_len_lt hn (n:=W.length) fun i hi=>by
  obtain⟨x,hx,rfl⟩:=List.mem_map.1 hi
  obtain⟨j,hj⟩:=List.getElem?_of_mem hx
  have:=h.c1 j x hj
  omega
 simpa using this
section
variable {cs:St} {b:Nat} {w:HpW} {put:Chunk→St} {K:Value→SP}
instance hpRd:RdB (hpC b w::cs) b 266 [.slice w.a w.l.length w.c,.slice (some (ad w.bw 0)) w.wh.length w.wh.length]:=⟨Rd.in (i:=0) rfl (by simp [hpC,bk])⟩
instance hpRdW:RdB (hpC b w::cs) w.bw 3 (List.map (Value.int .i64) w.wh):=⟨Rd.in (i:=0) rfl (by simp [hpC,bk])⟩
instance hpRw:Rw 191 2 (hpC b w::cs) w.a w.l.length w.c encE w.l:=⟨by
 have h:=Row.rd w.row (cs:=[w.ch]) (put:=fun c=>[c]) inferInstance
 refine⟨h.len,h.cap,fun hn=> ?_⟩
 obtain⟨b',o,T,cells,h1,h2,h3⟩:=h.get hn
 refine⟨b',o,T,cells,h1,?_,h3⟩
 exact h2.mono fun x hx=>by simp at hx;simp [hpC,hx]⟩
instance:ZeT 191 (.agg ⟨[.int .i64 0,.int .i64 0]⟩):=⟨by kernel_rfl⟩
instance {a:Addr} {i:Int}:Go1 (fn 261 [.pointer (some a),.int .i64 i] K cs) (s261 a i K cs):=⟨f261⟩
instance c241 [o:Ob hpC cs b w put] {i:Int} {x:Int×Int}:Go1 (fn 241 [.pointer (some (ad b 0)),.int .i64 i,.agg ⟨[.int .i64 x.1,.int .i64 x.2]⟩] K cs)
  (((0≤i∧i<w.l.length)∧0≤x.2∧x.2<w.wh.length)∧∀w':HpW,w'.l=w.l.set i.toNat x→w'.wh=w.wh.set x.2.toNat i→K undef (put (hpC b w'))):=⟨fun⟨⟨h1,h2,h3⟩,h⟩=>by
 have rr:=w.row
 refine o.fn3 (bk b 266 [.slice w.a w.l.length w.c,.slice (some (ad w.bw 0)) w.wh.length w.wh.length]) w.ch (bk w.bw 3 (List.map (Value.int .i64) w.wh)) rfl fun F=>f241 ?_
 unfold s241
 refine go ?_
 intro g
 refine⟨h1,x,rfl,fun ch' hr=>⟨⟨h2,h3⟩,by omega,?_⟩⟩
 have hh:=h ⟨w.a,w.c,ch',w.bw,w.l.set i.toNat x,w.wh.set x.2.toNat i,by rw [List.length_set];exact hr,by rw [List.length_set];exact w.hl⟩ rfl rfl
 simp only [hpC,List.length_set]at hh
 exact⟨_,_,_,drp,hh⟩⟩
instance c262 [o:Ob hpC cs b w put] {i:Nat}:Go1 (fn 262 [.pointer (some (ad b 0)),.int .i64 i] K cs)
  (∃tm e,w.l[i]? =some e∧Cns w.l (w.wh.set e.2.toNat i) tm∧Semi w.l i∧∀(w':HpW) (j:Nat),Cns w'.l w'.wh tm→Semi w'.l j→Above w'.l j→w'.l[j]? =some e→(Kids w.l i→Kids w'.l j)→w'.l.length=w.l.length→w'.wh.length=w.wh.length→K undef (put (hpC b w'))):=⟨fun⟨tm,e,he,hc,hs,h⟩=>by
 refine o.fn1 (hpC b w) rfl fun F=>f262 ?_
 have hi:=lt_of_get he
 unfold s262
 refine go ?_
 refine⟨⟨by omega,by omega⟩,fun x hx g=> ?_⟩
 rw [Int.toNat_natCast,he]at hx;cases hx
 have hlen:=hc.len
 have hl:=w.hl
 have ce:=hc.c1 i e he
 simp only [List.length_set]at hlen ce
 have e0:w.l.set i e=w.l:=set_same he
 refine lp (fun x:HpW×Nat=>[.int .i64 x.2]) (fun x=>bk g 191 [.int .i64 e.1,.int .i64 e.2]::hpC b x.1::F)
  (fun x=>x.1.l.length=w.l.length∧x.1.wh.length=w.wh.length∧Cns (x.1.l.set x.2 e) (x.1.wh.set e.2.toNat x.2) tm∧Semi (x.1.l.set x.2 e) x.2∧x.2<x.1.l.length∧(Kids w.l i→Kids (x.1.l.set x.2 e) x.2)) (fun x=>x.2) (w,i) rfl (Imp.refl _) ⟨rfl,rfl,by rw [e0];exact hc,by rw [e0];exact hs,hi,by rw [e0];exact id⟩ ?_
 rintro⟨w1,i1⟩ ⟨l1,l2,k1,k2,k3,kk⟩
 dsimp only at *
 refine go ?_
 have t1:0<i1→w64 ((w64 ((i1:Int)-1)).tdiv 2)=(par i1:Nat):=fun h0=>by
  rw [w64_id (n:=(i1:Int)-1) (by omega),Int.tdiv_eq_ediv_of_nonneg (by omega),w64_id (by omega)]
  unfold par;omega
 simp only [gt_iff_lt,decide_eq_true_eq,decide_eq_false_iff_not]
 have last:∀w2:HpW,w2.l=w1.l.set i1 e→w2.wh=w1.wh.set e.2.toNat i1→Above (w1.l.set i1 e) i1→∃q1,Imp (bk g 191 [.int .i64 e.1,.int .i64 e.2]::hpC b w2::F) (q1::F)∧K undef (put q1):=fun w2 q1 q2 ha=>
  ⟨_,drp,h w2 i1 (by rw [q1,q2];exact k1) (by rw [q1];exact k2) (by rw [q1];exact ha) (by rw [q1];simp [k3]) (by rw [q1];exact kk) (by rw [q1];simp [l1]) (by rw [q2];simp [l2])⟩
 refine⟨fun c=> ?_,fun c=>⟨⟨⟨by omega,by omega⟩,by omega,by omega⟩,fun w2 q1 q2=>last w2 (by simpa using q1) q2 fun _ _ h0=>by omega⟩⟩
 have h0:0<i1:=by omega
 rw [t1 h0]
 have hp:par i1<w1.l.length:=by unfold par;omega
 refine⟨⟨by omega,by omega⟩,fun y hy=> ?_⟩
 rw [Int.toNat_natCast]at hy
 have hne:i1≠par i1:=by unfold par;omega
 have g1:(w1.l.set i1 e)[i1]? =some e:=by simp [k3]
 have g2:(w1.l.set i1 e)[par i1]? =some y:=by rw [List.getElem?_set_ne hne];exact hy
 have cy:=k1.c1 _ y g2
 simp only [List.length_set]at cy
 simp only [ord_le]
 refine⟨fun c1=>⟨⟨⟨by omega,by omega⟩,by omega,by omega⟩,fun w2 q1 q2=>last w2 (by simpa using q1) q2 fun a b' _ ha hb=> ?_⟩,fun c1=>⟨⟨by omega,by omega⟩,fun y' hy'=>⟨⟨⟨by omega,by omega⟩,?_,?_⟩,fun w2 q1 q2=> ?_⟩⟩⟩
 ·rw [g1]at ha;cases ha
  rw [g2]at hb;cases hb
  exact c1
 ·rw [Int.toNat_natCast,hy]at hy';cases hy';exact cy.1
 ·rw [Int.toNat_natCast,hy]at hy';cases hy';exact cy.2.1
 ·rw [Int.toNat_natCast,hy]at hy';cases hy'
  rw [Int.toNat_natCast]at q1
  have hxy:e.2≠y.2:=fun ee=>hne (k1.inj g1 g2 ee)
  have m1:=k1.move g1 g2 hne
  have m2:=k2.up h0 g1 g2 c1
  have m3:=k2.upKids h0 g1 g2 c1
  rw [List.set_set]at m1 m2 m3
  have e2:(w1.wh.set e.2.toNat i1).set y.2.toNat i1=(w1.wh.set y.2.toNat i1).set e.2.toNat i1:=List.set_comm _ _ (by omega)
  rw [e2,List.set_set]at m1
  refine⟨(w2,par i1),by simp,Imp.refl _,⟨by simp only [q1,List.length_set];exact l1,by simp only [q2,List.length_set];exact l2,by simp only [q1,q2];exact m1,by simp only [q1];exact m2,by simp only [q1,List.length_set];exact hp,fun _=>by simp only [q1];exact m3⟩,by simp only;unfold par;omega⟩⟩
instance c330 [o:Ob hpC cs b w put] {i:Nat}:Go1 (fn 330 [.pointer (some (ad b 0)),.int .i64 i] K cs)
  (∃tm e,w.l[i]? =some e∧Cns w.l w.wh tm∧Semi w.l i∧Above w.l i∧∀(w':HpW),HpI w' tm→w'.l.length=w.l.length→w'.wh.length=w.wh.length→K undef (put (hpC b w'))):=⟨fun⟨tm,e,he,hc,hs,hab,h⟩=>by
 refine o.fn1 (hpC b w) rfl fun F=>f330 ?_
 have hi:=lt_of_get he
 unfold s330
 refine go ?_
 refine⟨⟨by omega,by omega⟩,fun x hx g=> ?_⟩
 rw [Int.toNat_natCast,he]at hx;cases hx
 have hlen:=hc.len
 have hl:=w.hl
 have ce:=hc.c1 i e he
 have e0:w.l.set i e=w.l:=set_same he
 have e1:w.wh.set e.2.toNat i=w.wh:=set_same (by
  have hlt:e.2.toNat<w.wh.length:=by omega
  rw [List.getElem?_eq_getElem hlt]
  have:=ce.2.2.1
  rw [List.getD_eq_getElem?_getD,List.getElem?_eq_getElem hlt]at this
  exact congrArg some this)
 refine lp (fun x:HpW×Nat=>[.int .i64 x.2]) (fun x=>bk g 191 [.int .i64 e.1,.int .i64 e.2]::hpC b x.1::F)
  (fun x=>x.1.l.length=w.l.length∧x.1.wh.length=w.wh.length∧Cns (x.1.l.set x.2 e) (x.1.wh.set e.2.toNat x.2) tm∧Semi (x.1.l.set x.2 e) x.2∧Above (x.1.l.set x.2 e) x.2∧x.2<x.1.l.length) (fun x=>x.1.l.length-x.2) (w,i) rfl (Imp.refl _) ⟨rfl,rfl,by rw [e0,e1];exact hc,by rw [e0];exact hs,by rw [e0];exact hab,hi⟩ ?_
 rintro⟨w1,i1⟩ ⟨l1,l2,k1,k2,k4,k3⟩
 dsimp only at *
 refine goj ?_
 have g1:(w1.l.set i1 e)[i1]? =some e:=by simp [k3]
 have hb1:w64 (w64 (2*(i1:Int))+1)=(2*i1+1:Nat):=by rw [w64_id (n:=2*(i1:Int)) (by omega),w64_id (by omega)];omega
 have hb2:w64 (((2*i1+1:Nat):Int)+1)=(2*i1+2:Nat):=by rw [w64_id (by omega)];omega
 simp only [hb1,hb2,ge_iff_le,decide_eq_true_eq,decide_eq_false_iff_not,ord_le,ord_lt,Int.toNat_natCast]
 have last:(∀(j:Nat) (x y:Int×Int),0<j→par j=i1→(w1.l.set i1 e)[j]? =some x→(w1.l.set i1 e)[i1]? =some y→lexle y x)→∀w2:HpW,w2.l=w1.l.set i1 e→w2.wh=w1.wh.set e.2.toNat i1→∃q1,Imp (bk g 191 [.int .i64 e.1,.int .i64 e.2]::hpC b w2::F) (q1::F)∧K undef (put q1):=fun hch w2 q1 q2=>
  ⟨_,drp,h w2 ⟨by rw [q1,q2];exact k1,by rw [q1];exact k2.hord k4 hch⟩ (by rw [q1];simp [l1]) (by rw [q2];simp [l2])⟩
 have step:∀(m:Nat) (y:Int×Int),0<m→par m=i1→w1.l[m]? =some y→¬lexle e y→(∀(j:Nat) (z:Int×Int),0<j→par j=i1→w1.l[j]? =some z→lexle y z)→∀w2:HpW,w2.l=w1.l.set i1 y→w2.wh=w1.wh.set y.2.toNat i1→
   ∃x':HpW×Nat,[Value.int .i64 (m:Int)]=[Value.int .i64 (x'.2:Int)]∧Imp (bk g 191 [.int .i64 e.1,.int .i64 e.2]::hpC b w2::F) (bk g 191 [.int .i64 e.1,.int .i64 e.2]::hpC b x'.1::F)∧
    (x'.1.l.length=w.l.length∧x'.1.wh.length=w.wh.length∧Cns (x'.1.l.set x'.2 e) (x'.1.wh.set e.2.toNat x'.2) tm∧Semi (x'.1.l.set x'.2 e) x'.2∧Above (x'.1.l.set x'.2 e) x'.2∧x'.2<x'.1.l.length)∧x'.1.l.length-x'.2<w1.l.length-i1:=fun m y m0 hm hy hlt hmin w2 q1 q2=>by
  have hne:i1≠m:=by unfold par at hm;omega
  have lm:=lt_of_get hy
  have g2:(w1.l.set i1 e)[m]? =some y:=by rw [List.getElem?_set_ne hne];exact hy
  have hxy:e.2≠y.2:=fun ee=>hne (k1.inj g1 g2 ee)
  have cy:=k1.c1 _ y g2
  have m1:=k1.move g1 g2 hne
  have m2:=k2.down hm m0 g1 g2 hlt (fun j z j0 hj hz=>hmin j z j0 hj (by rw [List.getElem?_set_ne (by unfold par at hj;omega)]at hz;exact hz))
  rw [List.set_set]at m1 m2
  have e2:(w1.wh.set e.2.toNat i1).set y.2.toNat i1=(w1.wh.set y.2.toNat i1).set e.2.toNat i1:=List.set_comm _ _ (by omega)
  rw [e2,List.set_set]at m1
  refine⟨(w2,m),rfl,Imp.refl _,⟨by simp only [q1,List.length_set];exact l1,by simp only [q2,List.length_set];exact l2,by simp only [q1,q2];exact m1,by simp only [q1];exact m2.1,by simp only [q1];exact m2.2,by simp only [q1,List.length_set];exact lm⟩,?_⟩
  simp only [q1,List.length_set]
  unfold par at hm
  omega
 have kids:∀j,0<j→par j=i1→j=2*i1+1∨j=2*i1+2:=fun j j0 hj=>by unfold par at hj;omega
 have cyOf:∀(m:Nat) (y:Int×Int),i1≠m→w1.l[m]? =some y→0≤y.2∧y.2<w1.wh.length:=fun m y hne hy=>by
  have g2:(w1.l.set i1 e)[m]? =some y:=by rw [List.getElem?_set_ne hne];exact hy
  have:=k1.c1 _ y g2
  simp only [List.length_set]at this
  exact⟨this.1,this.2.1⟩
 have kept:∀(m:Nat) (y:Int×Int),w1.l[m]? =some y→(∀(j:Nat) (z:Int×Int),0<j→par j=i1→w1.l[j]? =some z→lexle y z)→lexle e y→∀(j:Nat) (x y:Int×Int),0<j→par j=i1→(w1.l.set i1 e)[j]? =some x→(w1.l.set i1 e)[i1]? =some y→lexle y x:=fun m y hy hmin hle j x z j0 hj hx hz=>by
  rw [g1]at hz;cases hz
  rw [List.getElem?_set_ne (by unfold par at hj;omega)]at hx
  exact lexle_trans hle (hmin j x j0 hj hx)
 refine⟨fun c=>⟨⟨⟨by omega,by omega⟩,ce.1,by omega⟩,last fun j x y j0 hj hx _=> ?_⟩,fun c=>⟨fun c2=>⟨⟨by omega,by omega⟩,fun x hx=>⟨⟨by omega,by omega⟩,fun x2 hx2=>⟨fun c3=> ?_,fun c3=> ?_⟩⟩⟩,fun c2=> ?_⟩⟩
 ·have:=lt_of_get hx
  simp only [List.length_set]at this
  have:=kids j j0 hj
  omega
 ·have hm2:∀y,w1.l[2*i1+2]? =some y→∀(j:Nat) (z:Int×Int),0<j→par j=i1→w1.l[j]? =some z→lexle y z:=fun y hy j z j0 hj hz=>by
   rw [hx]at hy;cases hy
   rcases kids j j0 hj with rfl | rfl
   ·rw [hx2]at hz;cases hz;exact lexle_total c3
   ·rw [hx]at hz;cases hz;exact lexle_refl _
  refine⟨⟨by omega,by omega⟩,fun y hy=>⟨fun c4=>⟨⟨⟨by omega,by omega⟩,ce.1,by omega⟩,last (kept _ y hy (hm2 y hy) c4)⟩,fun c4=>⟨⟨by omega,by omega⟩,fun y' hy'=> ?_⟩⟩⟩
  rw [hy]at hy';cases hy'
  have:=cyOf _ y (by omega) hy
  exact⟨⟨⟨by omega,by omega⟩,this.1,this.2⟩,step _ y (by omega) (by unfold par;omega) hy c4 (hm2 y hy)⟩
 ·have hm1:∀y,w1.l[2*i1+1]? =some y→∀(j:Nat) (z:Int×Int),0<j→par j=i1→w1.l[j]? =some z→lexle y z:=fun y hy j z j0 hj hz=>by
   rw [hx2]at hy;cases hy
   rcases kids j j0 hj with rfl | rfl
   ·rw [hx2]at hz;cases hz;exact lexle_refl _
   ·rw [hx]at hz;cases hz;exact Classical.byContradiction fun hh=>c3 hh
  refine⟨⟨by omega,by omega⟩,fun y hy=>⟨fun c4=>⟨⟨⟨by omega,by omega⟩,ce.1,by omega⟩,last (kept _ y hy (hm1 y hy) c4)⟩,fun c4=>⟨⟨by omega,by omega⟩,fun y' hy'=> ?_⟩⟩⟩
  rw [hy]at hy';cases hy'
  have:=cyOf _ y (by omega) hy
  exact⟨⟨⟨by omega,by omega⟩,this.1,this.2⟩,step _ y (by omega) (by unfold par;omega) hy c4 (hm1 y hy)⟩
 ·have hm1:∀y,w1.l[2*i1+1]? =some y→∀(j:Nat) (z:Int×Int),0<j→par j=i1→w1.l[j]? =some z→lexle y z:=fun y hy j z j0 hj hz=>by
   rcases kids j j0 hj with rfl | rfl
   ·rw [hy]at hz;cases hz;exact lexle_refl _
   ·have:=lt_of_get hz;omega
  refine⟨⟨by omega,by omega⟩,fun y hy=>⟨fun c4=>⟨⟨⟨by omega,by omega⟩,ce.1,by omega⟩,last (kept _ y hy (hm1 y hy) c4)⟩,fun c4=>⟨⟨by omega,by omega⟩,fun y' hy'=> ?_⟩⟩⟩
  rw [hy]at hy';cases hy'
  have:=cyOf _ y (by omega) hy
  exact⟨⟨⟨by omega,by omega⟩,this.1,this.2⟩,step _ y (by omega) (by unfold par;omega) hy c4 (hm1 y hy)⟩⟩
instance c242 [o:Ob hpC cs b w put] {i:Nat}:Go1 (fn 242 [.pointer (some (ad b 0)),.int .i64 i] K cs)
  (∃tm,i<w.l.length∧Cns w.l w.wh tm∧Semi w.l i∧∀(w':HpW),HpI w' tm→w'.l.length=w.l.length→w'.wh.length=w.wh.length→K undef (put (hpC b w'))):=⟨fun⟨tm,hi,hc,hs,h⟩=>by
 refine o.fn1 (hpC b w) rfl fun F=>f242 ?_
 unfold s242
 refine go ?_
 refine⟨⟨by omega,by omega⟩,fun x hx=>⟨tm,x,hx,by rw [hc.same (i:=i) hx];exact hc,hs,fun w1 j k1 k2 k3 k4 _ k5 k6=> ?_⟩⟩
 have cx:=hc.c1 _ x hx
 have cj:=k1.c1 j x k4
 refine⟨⟨by omega,by omega⟩,by omega,?_⟩
 rw [cj.2.2.1]
 refine go ⟨tm,x,k4,k1,k2,k3,fun w2 h1 h2 h3=>⟨_,drp,h w2 h1 (by omega) (by omega)⟩⟩⟩
theorem Cns.drop {L:List (Int×Int)} {W tm:List Int} (h:Cns L W tm) {i:Nat} {x:Int×Int} (hi:L[i]? =some x) (hl:i=L.length-1):
  Cns (L.take (L.length-1)) (W.set x.2.toNat (-1)) (tm.set x.2.toNat never):=by
 have a1:=h.c1 i x hi
 have li:=lt_of_get hi
 refine⟨fun j z hj=> ?_,fun k hk=> ?_,fun k hk=> ?_,by simp [h.tl]⟩
 ·have hjl:j<L.length-1:=by have:=lt_of_get hj;simp at this;omega
  rw [List.getElem?_take_of_lt hjl]at hj
  have a2:=h.c1 j z hj
  have hne:z.2≠x.2:=fun e=>by have:=h.inj hj hi e;omega
  simp only [List.length_set]
  rw [getD_set' _ _ _ _ _ (by omega),if_neg (by omega),getD_set' _ _ _ _ _ (by rw [h.tl];omega),if_neg (by omega)]
  exact a2
 ·simp only [List.length_set]at hk
  rw [getD_set' _ _ _ _ _ (by omega)]
  by_cases c:x.2.toNat=k
  ·rw [if_pos c];exact .inl rfl
  ·rw [if_neg c]
   rcases h.c2 k hk with h1 | ⟨j,z,h1,h2,h3⟩
   ·exact .inl h1
   ·refine .inr ⟨j,z,h1,?_,h3⟩
    have hj:=lt_of_get h2
    have hne:j≠i:=fun e=>by subst e;rw [hi]at h2;cases h2;omega
    rw [List.getElem?_take_of_lt (by omega)];exact h2
 ·simp only [List.length_set]at hk
  rw [getD_set' _ _ _ _ _ (by omega),getD_set' _ _ _ _ _ (by rw [h.tl];omega)]
  by_cases c:x.2.toNat=k
  ·intro _;rw [if_pos c]
  ·rw [if_neg c,if_neg c];exact h.c3 k hk
instance c159 [o:Ob hpC cs b w put] {i:Nat}:Go1 (fn 159 [.pointer (some (ad b 0)),.int .i64 i] K cs)
  (∃tm e,w.l[i]? =some e∧HpI w tm∧∀(w':HpW),HpI w' (tm.set e.2.toNat never)→w'.l.length=w.l.length-1→w'.wh.length=w.wh.length→K undef (put (hpC b w'))):=⟨fun⟨tm,e,he,hI,h⟩=>by
 have rr:=w.row
 have hi:=lt_of_get he
 have hlen:=hI.cns.len
 have hl:=w.hl
 have ce:=hI.cns.c1 i e he
 refine o.fn3 (bk b 266 [.slice w.a w.l.length w.c,.slice (some (ad w.bw 0)) w.wh.length w.wh.length]) w.ch (bk w.bw 3 (List.map (Value.int .i64) w.wh)) rfl fun F=>f159 ?_
 unfold s159
 refine go ?_
 have e1:w64 ((w.l.length:Int)-1)=(w.l.length-1:Nat):=by rw [w64_id (by omega)];omega
 simp only [e1,Int.toNat_natCast,decide_eq_true_eq,decide_eq_false_iff_not]
 refine⟨⟨by omega,by omega⟩,fun x hx=> ?_⟩
 rw [he]at hx;cases hx
 refine⟨⟨ce.1,ce.2.1⟩,by omega,⟨by omega,by omega⟩,fun y hy g=>⟨⟨by omega,by omega⟩,fun hr=>⟨fun c=> ?_,fun c=> ?_⟩⟩⟩
 ·have cy:=hI.cns.c1 _ y hy
  have hne:i≠w.l.length-1:=by omega
  have m1:=(hI.cns.move he hy hne).drop (i:=w.l.length-1) (x:=e) (by rw [List.getElem?_set,if_pos rfl,if_pos (by simp only [List.length_set];omega)]) (by simp only [List.length_set])
  have hidne:e.2≠y.2:=fun ee=>hne (hI.cns.inj he hy ee)
  have t1:List.take (((w.l.set i y).set (w.l.length-1) e).length-1) ((w.l.set i y).set (w.l.length-1) e)=(w.l.take (w.l.length-1)).set i y:=by
   simp only [List.length_set]
   rw [List.take_set_of_le (Nat.le_refl _),List.take_set]
  have t2:(((w.wh.set y.2.toNat i).set e.2.toNat (w.l.length-1:Nat)).set e.2.toNat (-1))=(w.wh.set e.2.toNat (-1)).set y.2.toNat i:=by
   rw [List.set_set,List.set_comm _ _ (by omega)]
  rw [t1,t2]at m1
  have s1:Semi ((w.l.take (w.l.length-1)).set i y) i:=by
   have:=(hI.ord.semi y (i:=i))
   have hsub:∀(j:Nat) z,((w.l.take (w.l.length-1)).set i y)[j]? =some z→(w.l.set i y)[j]? =some z:=fun j z hz=>by
    rw [←List.take_set]at hz
    rw [List.getElem?_take]at hz
    split at hz
    ·exact hz
    ·cases hz
   exact⟨fun j a b' h0 h1 h2 h3 h4=>this.s1 j a b' h0 h1 h2 (hsub _ _ h3) (hsub _ _ h4),fun j a b' h0 h1 h2 h3 h4=>this.s2 j a b' h0 h1 h2 (hsub _ _ h3) (hsub _ _ h4)⟩
  have htl:(w.l.take (w.l.length-1)).length=w.l.length-1:=by simp
  have hr':Row 191 2 w.a (w.l.take (w.l.length-1)).length w.c encE (w.l.take (w.l.length-1)) w.ch:=by rw [htl];exact hr
  refine fn_imp (cs':=bk g 191 [.int .i64 y.1,.int .i64 y.2]::hpC b ⟨w.a,w.c,w.ch,w.bw,w.l.take (w.l.length-1),w.wh.set e.2.toNat (-1),hr',by simp [w.hl]⟩::F) ?_ ?_
  ·simp only [hpC,htl,List.length_set]
   exact drp
  ·refine go ?_
   dsimp only
   refine⟨⟨⟨by omega,by rw [htl];omega⟩,cy.1,by simp;omega⟩,fun w2 q1 q2=>⟨tm.set e.2.toNat never,by rw [q1];simp;omega,by rw [q1,q2];exact m1,by rw [q1];exact s1,fun w3 k1 k2 k3=> ?_⟩⟩
   obtain⟨p1,p2⟩:w3.l.length=w.l.length-1∧w3.wh.length=w.wh.length:=⟨by rw [k2,q1];simp,by rw [k3,q2];simp⟩
   have hh:=h w3 k1 p1 p2
   simp only [hpC]at hh
   refine⟨_,_,_,?_,hh⟩
   simp only [hpC]
   have d:Imp (bk g 191 [.int .i64 y.1,.int .i64 y.2]::(bk b 266 [.slice w3.a w3.l.length w3.c,.slice (some (ad w3.bw 0)) w3.wh.length w3.wh.length]++(w3.ch++bk w3.bw 3 (List.map (Value.int .i64) w3.wh)))::F) (bk b 266 [.slice w3.a w3.l.length w3.c,.slice (some (ad w3.bw 0)) w3.wh.length w3.wh.length]::w3.ch::bk w3.bw 3 (List.map (Value.int .i64) w3.wh)::F):=by
    refine Imp.of_sub (l:=bk g 191 [.int .i64 y.1,.int .i64 y.2]) ?_
    have:=List.perm_append_comm (l₁:=bk b 266 [.slice w3.a w3.l.length w3.c,.slice (some (ad w3.bw 0)) w3.wh.length w3.wh.length]++(w3.ch++(bk w3.bw 3 (List.map (Value.int .i64) w3.wh)++F.flatten))) (l₂:=bk g 191 [.int .i64 y.1,.int .i64 y.2])
    simpa only [List.flatten_cons,List.append_assoc]using this
   exact d
 ·have hie:i=w.l.length-1:=by omega
  have m1:=hI.cns.drop he hie
  have htl:(w.l.take (w.l.length-1)).length=w.l.length-1:=by simp
  have hh:=h ⟨w.a,w.c,w.ch,w.bw,w.l.take (w.l.length-1),w.wh.set e.2.toNat (-1),by rw [htl];exact hr,by simp [w.hl]⟩ ⟨m1,fun j a b' h0 h1 h2=>by
   have hsub:∀(j:Nat) z,(w.l.take (w.l.length-1))[j]? =some z→w.l[j]? =some z:=fun j z hz=>by
    rw [List.getElem?_take]at hz
    split at hz
    ·exact hz
    ·cases hz
   exact hI.ord j a b' h0 (hsub _ _ h1) (hsub _ _ h2)⟩ htl (by simp)
  simp only [hpC,htl,List.length_set]at hh
  exact⟨_,_,_,drp,hh⟩⟩
end
theorem tmMin_spec:∀(tm:List Int) (k:Nat),(∀t∈tm,t≤never)→match tmMin tm k with
  | none=>∀i,i<tm.length→tm.getD i 0=never
  | some (t,j)=>k≤j∧j-k<tm.length∧tm.getD (j-k) 0=t∧t≠never∧∀i,i<tm.length→tm.getD i 0≠never→lexle (t,j) (tm.getD i 0,((k+i:Nat):Int))
 | [],k,_=>by simp [tmMin]
 | t::r,k,h=>by
  have ih:=tmMin_spec r (k+1) fun x hx=>h x (List.mem_cons_of_mem _ hx)
  have ht:=h t List.mem_cons_self
  simp only [tmMin]
  cases hm:tmMin r (k+1)with
  | none=>
   rw [hm]at ih
   simp only at ih ⊢
   by_cases c:t=never
   ·rw [if_pos c]
    intro i hi
    cases i with
    | zero=>simpa using c
    | succ i=>simpa using ih i (by simpa using hi)
   ·rw [if_neg c]
    refine⟨Nat.le_refl _,by simp,by simp,c,fun i hi hn=> ?_⟩
    cases i with
    | zero=>simp [lexle]
    | succ i=>exact absurd (by simpa using ih i (by simpa using hi)) hn
  | some x=>
   obtain⟨t',k'⟩:=x
   rw [hm]at ih
   simp only at ih ⊢
   obtain⟨h1,h2,h3,h4,h5⟩:=ih
   have ht':t'≤never:=by
    have:t'∈r:=by rw [←h3,List.getD_eq_getElem?_getD,List.getElem?_eq_getElem h2];exact List.getElem_mem _
    exact h t' (List.mem_cons_of_mem _ this)
   by_cases c:t≤t'
   ·rw [if_pos c]
    refine⟨Nat.le_refl _,by simp,by simp,by omega,fun i hi hn=> ?_⟩
    cases i with
    | zero=>simp [lexle]
    | succ i=>
     have:=h5 i (by simpa using hi) (by simpa using hn)
     simp only [List.getD_cons_succ]
     unfold lexle at this ⊢
     simp only at this ⊢
     omega
   ·rw [if_neg c]
    have e:k'-k=(k'-(k+1))+1:=by omega
    refine⟨by omega,by simp;omega,by rw [e];simpa using h3,h4,fun i hi hn=> ?_⟩
    cases i with
    | zero=>
     simp only [List.getD_cons_zero]at hn ⊢
     unfold lexle
     simp only
     omega
    | succ i=>
     have:=h5 i (by simpa using hi) (by simpa using hn)
     simp only [List.getD_cons_succ]
     rw [show k+(i+1)=k+1+i by omega]
     exact this
theorem Cns.le {L:List (Int×Int)} {W tm:List Int} (h:Cns L W tm):∀t∈tm,t≤never:=by
 intro t ht
 obtain⟨k,hk,rfl⟩:=List.getElem_of_mem ht
 have hkW:k<W.length:=by rw [←h.tl];exact hk
 have e:tm[k]=tm.getD k 0:=by rw [List.getD_eq_getElem?_getD,List.getElem?_eq_getElem hk];rfl
 rw [e]
 rcases h.c2 k hkW with h1 | ⟨i,x,h1,h2,h3⟩
 ·rw [h.c3 k hkW h1];exact Int.le_refl _
 ·have:=h.c1 i x h2
  rw [show x.2.toNat=k by omega]at this
  omega
theorem Hord.root {L:List (Int×Int)} (h:Hord L) {y:Int×Int} (hy:L[0]? =some y):∀(n i:Nat) (x:Int×Int),i<n→L[i]? =some x→lexle y x
 | 0,i,x,hn,_=>absurd hn (Nat.not_lt_zero _)
 | n+1,i,x,hn,hx=>by
  by_cases c:i=0
  ·subst c;rw [hy]at hx;cases hx;exact lexle_refl _
  ·have hp:par i<L.length:=by have:=lt_of_get hx;unfold par;omega
   have h1:=h.root hy n (par i) _ (by unfold par;omega) (List.getElem?_eq_getElem hp)
   exact lexle_trans h1 (h i x _ (by omega) hx (List.getElem?_eq_getElem hp))
theorem HpI.none {w:HpW} {tm:List Int} (h:HpI w tm) (hl:w.l=[]):tmMin tm 0=none:=by
 have:=tmMin_spec tm 0 h.cns.le
 cases hm:tmMin tm 0 with
 | none=>rfl
 | some x=>
  obtain⟨t,j⟩:=x
  rw [hm]at this
  simp only at this
  obtain⟨h1,h2,h3,h4,_⟩:=this
  have hj:j<w.wh.length:=by rw [←h.cns.tl];omega
  rcases h.cns.c2 j hj with q | ⟨i,x,q1,q2,q3⟩
  ·have:=h.cns.c3 j hj q;rw [Nat.sub_zero]at h3;omega
  ·rw [hl]at q2;simp at q2
theorem HpI.some {w:HpW} {tm:List Int} (h:HpI w tm) {y:Int×Int} (hl:w.l[0]? =some y):tmMin tm 0=some (y.1,y.2.toNat):=by
 have sp:=tmMin_spec tm 0 h.cns.le
 have cy:=h.cns.c1 0 y hl
 cases hm:tmMin tm 0 with
 | none=>
  rw [hm]at sp
  simp only at sp
  have:=sp y.2.toNat (by rw [h.cns.tl];omega)
  omega
 | some x=>
  obtain⟨t,j⟩:=x
  rw [hm]at sp
  simp only at sp
  obtain⟨h1,h2,h3,h4,h5⟩:=sp
  simp only [Nat.sub_zero]at h2 h3
  have hj:j<w.wh.length:=by rw [←h.cns.tl];omega
  have a1:=h5 y.2.toNat (by rw [h.cns.tl];omega) (by omega)
  rw [cy.2.2.2.1]at a1
  rcases h.cns.c2 j hj with q | ⟨i,x,q1,q2,q3⟩
  ·have:=h.cns.c3 j hj q;omega
  ·have a2:=h.ord.root hl (i+1) i x (Nat.lt_succ_self _) q2
   have cx:=h.cns.c1 i x q2
   rw [show x.2.toNat=j by omega]at cx
   unfold lexle at a1 a2
   simp only at a1 a2
   have e1:t=y.1:=by omega
   have e2:j=y.2.toNat:=by omega
   rw [e1,e2]
section
variable {cs:St} {b:Nat} {w:HpW} {put:Chunk→St} {K:Value→SP}
instance c157 [o:Ob hpC cs b w put]:Go1 (fn 157 [.pointer (some (ad b 0))] K cs)
  ((w.l=[]→K (.tuple ⟨[.agg ⟨[.int .i64 0,.int .i64 0]⟩,.bool false]⟩) cs)∧(∀y,w.l[0]? =some y→K (.tuple ⟨[.agg ⟨[.int .i64 y.1,.int .i64 y.2]⟩,.bool true]⟩) cs)):=⟨fun⟨h0,h1⟩=>o.fn1 (hpC b w) rfl fun F=>f157 (by
 unfold s157
 refine goj ?_
 intro g
 rw [←o.same]at h0 h1
 simp only [beq_iff_eq,beq_eq_false_iff_ne]
 refine⟨fun c=>⟨_,drp,h0 (List.eq_nil_of_length_eq_zero (by omega))⟩,fun c=>⟨⟨by omega,by omega⟩,fun x hx=>⟨_,drp,h1 x hx⟩⟩⟩)⟩
instance c81 {x:Int}:Go1 (fn 81 [.int .i64 x] K cs) (∀b w,HpI w (List.replicate (min (max x 1) 1024).toNat never)→(w.wh.length:Int)=min (max x 1) 1024→K (.pointer (some (ad b 0))) (hpC b w::cs)):=⟨fun h=>up0 (f81 (by
 unfold s81
 have e:(if 1024<if 1>x then 1 else x then 1024 else if 1>x then 1 else x)=min (max x 1) 1024:=by omega
 rw [e]
 have hx:1≤min (max x 1) 1024∧min (max x 1) 1024≤1024:=by omega
 obtain⟨m,hm⟩:∃m:Nat,min (max x 1) 1024=m:=⟨(min (max x 1) 1024).toNat,by omega⟩
 rw [hm]at h hx ⊢
 simp only [Int.toNat_natCast]at h
 refine go ?_
 refine⟨by omega,fun bw b=> ?_⟩
 refine lp (fun i:Nat=>[.int .i64 i]) (fun i=>bk b 266 [.slice none 0 0,.slice (some (ad bw 0)) m m]::bk bw 3 (List.map (Value.int .i64) (List.replicate i (-1)++List.replicate (m-i) 0))::cs) (fun i=>i≤m) (fun i=>m-i) 0 rfl (by simp only [List.replicate_zero,List.nil_append,Nat.sub_zero,Int.toNat_natCast];exact drp) (Nat.zero_le _) ?_
 intro i hi
 refine go ?_
 simp only [Int.toNat_natCast,decide_eq_true_eq,decide_eq_false_iff_not]
 refine⟨fun c=>⟨⟨by omega,by omega⟩,by simp;omega,⟨i+1,by rw [w64_id (by omega)];simp,?_,by omega,by omega⟩⟩,fun c=> ?_⟩
 ·have:(List.replicate i (-1:Int)++List.replicate (m-i) 0).set i (-1)=List.replicate (i+1) (-1)++List.replicate (m-(i+1)) 0:=by
   rw [List.set_append_right _ _ (by simp)]
   simp only [List.length_replicate,Nat.sub_self]
   obtain⟨d,hd⟩:∃d,m-i=d+1:=⟨m-i-1,by omega⟩
   rw [hd,show m-(i+1)=d by omega,List.replicate_succ,List.set_cons_zero,List.replicate_succ' (n:=i),List.append_assoc]
   rfl
  rw [this]
  exact drp
 ·have him:i=m:=by omega
  subst him
  have hh:=h b ⟨none,0,[],bw,[],List.replicate i (-1),⟨Sl.nil⟩,by simp;omega⟩ ⟨⟨fun j y hj=>by simp at hj,fun k hk=> .inl (by
    simp only [List.length_replicate]at hk
    simp [List.getD_eq_getElem?_getD,List.getElem?_replicate,hk]),fun k hk _=>by
    simp only [List.length_replicate]at hk
    simp [List.getD_eq_getElem?_getD,List.getElem?_replicate,hk],by simp⟩,fun j y z _ hj=>by simp at hj⟩ (by simp)
  simp only [hpC,List.length_replicate,List.length_nil]at hh
  simp only [Nat.sub_self,List.replicate_zero,List.append_nil]
  exact fin hh))⟩
theorem Cns.push {L:List (Int×Int)} {W tm:List Int} (h:Cns L W tm) {k:Nat} {t:Int} (hk:k<W.length) (hw:W.getD k 0= -1) (ht:0≤t∧t<never):
  Cns (L++[(t,(k:Int))]) (W.set k L.length) (tm.set k t):=by
 have hne:∀(j:Nat) z,L[j]? =some z→z.2.toNat≠k:=fun j z hj e=>by
  have:=(h.c1 j z hj).2.2.1
  rw [e]at this;omega
 refine⟨fun j z hj=> ?_,fun i hi=> ?_,fun i hi=> ?_,by simp [h.tl]⟩
 ·simp only [List.length_set]
  rw [getD_set' _ _ _ _ _ hk,getD_set' _ _ _ _ _ (by rw [h.tl];exact hk)]
  by_cases c:j<L.length
  ·rw [List.getElem?_append_left c]at hj
   have a:=h.c1 j z hj
   rw [if_neg (Ne.symm (hne j z hj)),if_neg (Ne.symm (hne j z hj))]
   exact a
  ·have hl:=lt_of_get hj
   simp only [List.length_append,List.length_singleton]at hl
   have:j=L.length:=by omega
   subst this
   simp at hj;subst hj
   exact⟨by simp,by simp only;omega,by simp,by simp,ht.1,ht.2⟩
 ·simp only [List.length_set]at hi
  rw [getD_set' _ _ _ _ _ hk]
  by_cases c:k=i
  ·exact .inr ⟨L.length,(t,(k:Int)),by rw [if_pos c],by simp,by simp [c]⟩
  ·rw [if_neg c]
   rcases h.c2 i hi with q | ⟨j,x,q1,q2,q3⟩
   ·exact .inl q
   ·exact .inr ⟨j,x,q1,by rw [List.getElem?_append_left (lt_of_get q2)];exact q2,q3⟩
 ·simp only [List.length_set]at hi
  rw [getD_set' _ _ _ _ _ hk,getD_set' _ _ _ _ _ (by rw [h.tl];exact hk)]
  by_cases c:k=i
  ·rw [if_pos c];intro q;omega
  ·rw [if_neg c,if_neg c];exact h.c3 i hi
theorem Cns.again {L:List (Int×Int)} {W tm:List Int} (h:Cns L W tm) {i:Nat} {x:Int×Int} {t:Int} (hi:L[i]? =some x) (ht:0≤t∧t<never):Cns (L.set i (t,x.2)) W (tm.set x.2.toNat t):=by
 have cx:=h.c1 i x hi
 have li:=lt_of_get hi
 refine⟨fun j z hj=> ?_,fun k hk=> ?_,fun k hk=> ?_,by simp [h.tl]⟩
 ·rw [getD_set' _ _ _ _ _ (by rw [h.tl];omega)]
  rw [List.getElem?_set]at hj
  by_cases c:i=j
  ·rw [if_pos c,if_pos (by omega)]at hj
   cases hj
   exact⟨cx.1,cx.2.1,by rw [←c];exact cx.2.2.1,by simp,ht.1,ht.2⟩
  ·rw [if_neg c]at hj
   have a:=h.c1 j z hj
   have:x.2.toNat≠z.2.toNat:=fun e=>c (h.inj hi hj (by omega))
   rw [if_neg this]
   exact a
 ·rcases h.c2 k hk with q | ⟨j,z,q1,q2,q3⟩
  ·exact .inl q
  ·by_cases c:i=j
   ·subst c
    rw [hi]at q2;cases q2
    exact .inr ⟨i,(t,x.2),q1,by simp [li],q3⟩
   ·exact .inr ⟨j,z,q1,by rw [List.getElem?_set_ne c];exact q2,q3⟩
 ·intro q
  rw [getD_set' _ _ _ _ _ (by rw [h.tl];omega)]
  have:=h.c3 k hk q
  by_cases c:x.2.toNat=k
  ·rw [c]at cx;omega
  ·rw [if_neg c];exact this
theorem tm_never {w:HpW} {tm:List Int} (h:HpI w tm) {k:Nat} (hk:k<w.wh.length) (hw:w.wh.getD k 0= -1):tm.set k never=tm:=by
 refine set_same ?_
 have:=h.cns.c3 k hk hw
 have hl:k<tm.length:=by rw [h.cns.tl];exact hk
 rw [List.getD_eq_getElem?_getD,List.getElem?_eq_getElem hl]at this
 rw [List.getElem?_eq_getElem hl]
 exact congrArg some this
instance c166 [o:Ob hpC cs b w put] {k t:Int}:Go1 (fn 166 [.pointer (some (ad b 0)),.int .i64 k,.int .i64 t] K cs)
  (∃tm,((0≤k∧k<w.wh.length)∧t≤never)∧HpI w tm∧∀(w':HpW),HpI w' (tmSet tm k.toNat t)→w'.wh.length=w.wh.length→∀r,K (.bool r) (put (hpC b w'))):=⟨fun⟨tm,⟨⟨hk0,hk1⟩,ht⟩,hI,h⟩=>by
 have hlen:=hI.cns.len
 have hl:=w.hl
 have hkk:((k.toNat:Nat):Int)=k:=by omega
 have hkl:k.toNat<w.wh.length:=by omega
 have key:w.wh.getD k.toNat 0≠-1→∃(i:Nat) (x:Int×Int),w.wh.getD k.toNat 0=i∧w.l[i]? =some x∧x.2=k:=fun c=>by
  rcases hI.cns.c2 k.toNat hkl with q | ⟨i,x,q1,q2,q3⟩
  ·exact absurd q c
  ·exact⟨i,x,q1,q2,by omega⟩
 by_cases cn:t=never
 ·subst cn
  have hts:tmSet tm k.toNat never=tm.set k.toNat never:=by simp [tmSet]
  rw [hts]at h
  refine o.fn1 (hpC b w) rfl fun F=>f166 ?_
  unfold s166
  have hb:((never:Int) == 9223372036854775807)=true:=by decide
  simp only [hb]
  refine go ?_
  simp only [ge_iff_le,beq_iff_eq,beq_eq_false_iff_ne,bne_iff_ne,ne_eq,bne_eq_false_iff_eq,Bool.not_eq_true',Bool.not_eq_false',decide_eq_true_eq,decide_eq_false_iff_not]
  refine⟨fun _=>⟨fun c=>absurd hk1 c,fun _ g=>⟨⟨hk0,hk1⟩,hkl,fun c=> ?_,fun c=>⟨_,drp,h w (by rw [tm_never hI hkl c];exact hI) rfl true⟩⟩⟩,fun c=>absurd hk0 c⟩
  obtain⟨i,x,q1,q2,q3⟩:=key c
  rw [q1]
  refine go ⟨tm,x,q2,hI,fun w2 h1 h2 h3=>⟨_,drp,h w2 (by rw [←q3];exact h1) h3 true⟩⟩
 ·have hb:(t == 9223372036854775807)=false:=by simpa using cn
  have hown:0≤own t∧own t<never:=by have:=nev;unfold own;omega
  have hts:tmSet tm k.toNat t=tm.set k.toNat (own t):=by simp [tmSet,cn]
  rw [hts]at h
  have rr:=w.row
  refine o.fn3 (bk b 266 [.slice w.a w.l.length w.c,.slice (some (ad w.bw 0)) w.wh.length w.wh.length]) w.ch (bk w.bw 3 (List.map (Value.int .i64) w.wh)) rfl fun F=>f166 ?_
  unfold s166
  simp only [hb]
  refine go ?_
  simp only [ge_iff_le,beq_iff_eq,beq_eq_false_iff_ne,bne_iff_ne,ne_eq,bne_eq_false_iff_eq,Bool.not_eq_true',Bool.not_eq_false',decide_eq_true_eq,decide_eq_false_iff_not]
  refine⟨fun _=>⟨fun c=>absurd hk1 c,fun _ g=>⟨⟨hk0,hk1⟩,hkl,fun c=> ?_,fun c=> ?_⟩⟩,fun c=>absurd hk0 c⟩
  ·refine⟨by omega,fun g2=>⟨⟨by omega,by omega⟩,(own t,k),rfl,fun a' c' ch' hr=> ?_⟩⟩
   have e1:w64 (((w.l.length+1:Nat):Int)-1)=(w.l.length:Nat):=by rw [w64_id (by omega)];omega
   rw [e1]
   have hr':Row 191 2 a' (w.l++[(own t,k)]).length c' encE (w.l++[(own t,k)]) ch':=by rw [List.length_append];exact hr
   refine fn_imp (cs':=hpC b ⟨a',c',ch',w.bw,w.l++[(own t,k)],w.wh,hr',w.hl⟩::F) ?_ ?_
   ·simp only [hpC,List.length_append,List.length_singleton]
    exact drp
   ·have m1:=hI.cns.push hkl c hown
    rw [hkk]at m1
    refine go ?_
    dsimp only
    refine⟨tm.set k.toNat (own t),(own t,k),by simp,m1,⟨fun j x y h0 h1 h2 h3 h4=> ?_,fun j x y h0 h1 h2 h3 h4=> ?_⟩,fun w3 j k1 k2 k3 k4 k7 k5 k6=> ?_⟩
    ·have l3:=lt_of_get h3
     simp only [List.length_append,List.length_singleton]at l3
     rw [List.getElem?_append_left (by omega)]at h3
     rw [List.getElem?_append_left (by unfold par;omega)]at h4
     exact hI.ord j x y h0 h3 h4
    ·have l3:=lt_of_get h3
     simp only [List.length_append,List.length_singleton]at l3
     unfold par at h1
     omega
    ·have ho:Hord w3.l:=k2.hord k3 (k7 fun j x y h0 h1 h2 h3=>by
      have l2:=lt_of_get h2
      simp only [List.length_append,List.length_singleton]at l2
      unfold par at h1
      omega)
     have hh:=h w3 ⟨k1,ho⟩ (by rw [k6]) true
     exact⟨_,_,_,(drp (c':=hpC b w3::F)).trans (Imp.of_sub (l:=[]) (by simp [hpC])),hh⟩
  ·obtain⟨i,x,q1,q2,q3⟩:=key c
   have li:=lt_of_get q2
   rw [q1]
   refine⟨⟨by omega,by omega⟩,(own t,k),rfl,fun ch' hr=> ?_⟩
   rw [Int.toNat_natCast]at hr
   have hr':Row 191 2 w.a (w.l.set i (own t,k)).length w.c encE (w.l.set i (own t,k)) ch':=by rw [List.length_set];exact hr
   refine fn_imp (cs':=hpC b ⟨w.a,w.c,ch',w.bw,w.l.set i (own t,k),w.wh,hr',w.hl⟩::F) ?_ ?_
   ·simp only [hpC,List.length_set]
    exact drp
   ·have m1:=hI.cns.again q2 hown
    rw [q3]at m1
    refine go ⟨tm.set k.toNat (own t),by simp;omega,m1,hI.ord.semi _,fun w3 k1 k2 k3=> ?_⟩
    have hh:=h w3 k1 k3 true
    exact⟨_,_,_,Imp.of_sub (l:=[]) (by simp [hpC]),hh⟩⟩
instance c258 [o:Ob hpC cs b w put] {k:Int}:Go1 (fn 258 [.pointer (some (ad b 0)),.int .i64 k] K cs)
  (∃tm,(0≤k∧k<w.wh.length)∧HpI w tm∧∀(w':HpW),HpI w' (tm.set k.toNat never)→w'.wh.length=w.wh.length→∀r,K (.bool r) (put (hpC b w'))):=⟨fun⟨tm,⟨hk0,hk1⟩,hI,h⟩=>by
 have hkl:k.toNat<w.wh.length:=by omega
 refine o.fn1 (hpC b w) rfl fun F=>f258 ?_
 unfold s258
 refine goj ?_
 simp only [ge_iff_le,beq_iff_eq,beq_eq_false_iff_ne,bne_iff_ne,ne_eq,bne_eq_false_iff_eq,Bool.not_eq_true',Bool.not_eq_false',decide_eq_true_eq,decide_eq_false_iff_not]
 refine⟨fun _=>⟨fun c=>absurd hk1 c,fun _=>⟨⟨hk0,hk1⟩,hkl,fun c=>⟨_,drp,h w (by rw [tm_never hI hkl c];exact hI) rfl false⟩,fun c=>⟨⟨hk0,hk1⟩,hkl,?_⟩⟩⟩,fun c=>absurd hk0 c⟩
 rcases hI.cns.c2 k.toNat hkl with q | ⟨i,x,q1,q2,q3⟩
 ·exact absurd q c
 ·rw [q1]
  refine go ⟨tm,x,q2,hI,fun w2 h1 h2 h3=>⟨_,drp,h w2 (by rw [show k.toNat=x.2.toNat by omega];exact h1) h3 true⟩⟩⟩
def fromNat (x:Int×Nat):Int×Int:=(x.1,(x.2:Int))
instance c159z [o:Ob hpC cs b w put]:Go1 (fn 159 [.pointer (some (ad b 0)),.int .i64 0] K cs)
  (∃tm e,w.l[0]? =some e∧HpI w tm∧∀(w':HpW),HpI w' (tm.set e.2.toNat never)→w'.l.length=w.l.length-1→w'.wh.length=w.wh.length→K undef (put (hpC b w'))):=c159 (i:=0)
structure DueS where
 w:HpW
 tm:List Int
 out:List (Int×Int)
 a:Option Addr
 c:Nat
 ch:Chunk
 y:Int×Int
 ok:Bool
 g:Nat
 k:Nat
def DueI (w:HpW) (tm:List Int) (now:Int) (x:DueS):Prop:=Row 191 2 x.a x.out.length x.c encE x.out x.ch∧HpI x.w x.tm∧x.w.wh.length=w.wh.length∧x.w.l.length≤x.k∧(x.w.l=[]→x.ok=false)∧(∀z,x.w.l[0]? =some z→x.y=z∧x.ok=true)∧
   x.out++(tmDue x.k x.tm now).1.map fromNat=(tmDue w.wh.length tm now).1.map fromNat∧(tmDue x.k x.tm now).2=(tmDue w.wh.length tm now).2∧x.out.length+x.w.l.length≤w.l.length
theorem tmDue_none {k:Nat} {tm:List Int} {now:Int} (h:tmMin tm 0=none):tmDue k tm now=([],tm):=by cases k <;>simp [tmDue,h]
theorem tmDue_not {k:Nat} {tm:List Int} {now t:Int} {j:Nat} (h:tmMin tm 0=some (t,j)) (hd:tdue t now=false):tmDue k tm now=([],tm):=by cases k <;>simp [tmDue,h,hd]
instance c95 [o:Ob hpC cs b w put] {now:Int}:Go1 (fn 95 [.pointer (some (ad b 0)),.int .i64 now] K cs)
  (∃tm,HpI w tm∧∀(w':HpW) a c ch,HpI w' (tmDue w.wh.length tm now).2→w'.wh.length=w.wh.length→Row 191 2 a (tmDue w.wh.length tm now).1.length c encE ((tmDue w.wh.length tm now).1.map fromNat) ch→K (.slice a (tmDue w.wh.length tm now).1.length c) (ch::put (hpC b w'))):=⟨fun⟨tm,hI,h⟩=>by
 refine o.fn1f (hpC b w) rfl fun F=>f95 ?_
 have hl:=w.hl
 have hcl:=hI.cns.len
 unfold s95
 refine go ?_
 have init:∀(y:Int×Int) (ok:Bool) (g:Nat),(w.l=[]→ok=false)→(∀z,w.l[0]? =some z→y=z∧ok=true)→DueI w tm now ⟨w,tm,[],none,0,[],y,ok,g,w.wh.length⟩:=fun y ok g h1 h2=>⟨⟨Sl.nil⟩,hI,rfl,hcl,h1,h2,rfl,rfl,by simp⟩
 refine⟨fun hn g=> ?_,fun y hy g=> ?_⟩
 ·have i0:=init (0,0) false g (fun _=>rfl) (fun z hz=>by rw [hn]at hz;simp at hz)
  refine lp (fun x:DueS=>[.slice x.a x.out.length x.c,.pointer (some (ad x.g 0)),.bool x.ok]) (fun x=>bk x.g 191 [.int .i64 x.y.1,.int .i64 x.y.2]::x.ch::hpC b x.w::F) (DueI w tm now) (fun x=>x.w.l.length) ⟨w,tm,[],none,0,[],(0,0),false,g,w.wh.length⟩ rfl drp i0 ?_
  rintro⟨w1,tm1,out,a,c,ch,y1,ok,g1,k⟩ ⟨hr,hI1,e1,e2,e3,e4,e5,e6,e7⟩
  dsimp only at *
  have fin1:tmDue k tm1 now=([],tm1)→∃front q1,Imp (bk g1 191 [.int .i64 y1.1,.int .i64 y1.2]::ch::hpC b w1::F) (front++(q1::F))∧K (.slice a out.length c) (front++put q1):=fun he=>by
   rw [he]at e5 e6
   simp only [List.map_nil,List.append_nil]at e5 e6
   have hlen:out.length=(tmDue w.wh.length tm now).1.length:=by rw [e5,List.length_map]
   have:=h w1 a c ch (by rw [←e6];exact hI1) e1 (by rw [←e5,←hlen];exact hr)
   rw [←hlen]at this
   exact⟨[ch],hpC b w1,drp (c':=ch::hpC b w1::F),this⟩
  have hnil:ok=false→tmDue k tm1 now=([],tm1):=fun hok=>tmDue_none (hI1.none (by
   cases hl1:w1.l with
   | nil=>rfl
   | cons z r=>have:=e4 z (by rw [hl1];rfl);rw [hok]at this;cases this.2))
  refine goj ?_
  dsimp only
  refine⟨fun c1=>⟨fun c2=> ?_,fun c2=>fin1 ?_⟩,fun c1=>fin1 (hnil c1)⟩
  ·have hne:w1.l≠[]:=fun hh=>by rw [e3 hh]at c1;cases c1
   obtain⟨z,r,hzr⟩:=List.exists_cons_of_ne_nil hne
   have hz:w1.l[0]? =some z:=by rw [hzr];rfl
   obtain⟨rfl,_⟩:=e4 z hz
   have hmin:=hI1.some hz
   have hpos:0<w1.l.length:=by rw [hzr];simp
   have hk:k=(k-1)+1:=by omega
   have hstep:tmDue k tm1 now=((y1.1,y1.2.toNat)::(tmDue (k-1) (tm1.set y1.2.toNat never) now).1,(tmDue (k-1) (tm1.set y1.2.toNat never) now).2):=by
    rw [hk];simp only [tmDue,hmin,c2,if_true,Nat.add_sub_cancel]
   have cy:=hI1.cns.c1 0 y1 hz
   have hfn:fromNat (y1.1,y1.2.toNat)=y1:=by unfold fromNat;ext <;>simp;omega
   rw [hstep]at e5 e6
   simp only [List.map_cons,hfn]at e5 e6
   have hw1:=hI1.cns.len
   have hw1l:=w1.hl
   refine⟨tm1,y1,hz,hI1,fun w2 k1 k2 k3=>⟨⟨by omega,by omega,by omega⟩,y1,rfl,fun a2 c3 ch2 hr2 g2=>⟨fun hn2=> ?_,fun z2 hz2=> ?_⟩⟩⟩
   ·refine⟨⟨w2,tm1.set y1.2.toNat never,out++[y1],a2,c3,ch2,(0,0),false,g2,k-1⟩,by simp,drp,⟨by simp only [List.length_append,List.length_singleton];exact hr2,k1,by simp only;omega,by simp only;omega,fun _=>rfl,fun z hz=>by simp only at hz;rw [hn2]at hz;simp at hz,by simp only;rw [←e5];simp,by simp only;exact e6,by simp only [List.length_append,List.length_singleton];omega⟩,by simp only;omega⟩
   ·refine⟨⟨w2,tm1.set y1.2.toNat never,out++[y1],a2,c3,ch2,z2,true,g2,k-1⟩,by simp,drp,⟨by simp only [List.length_append,List.length_singleton];exact hr2,k1,by simp only;omega,by simp only;omega,fun hn=>by simp only at hn;rw [hn]at hz2;simp at hz2,fun z hz=>by simp only at hz;rw [hz2]at hz;cases hz;exact⟨rfl,rfl⟩,by simp only;rw [←e5];simp,by simp only;exact e6,by simp only [List.length_append,List.length_singleton];omega⟩,by simp only;omega⟩
  ·cases hl1:w1.l with
   | nil=>exact tmDue_none (hI1.none hl1)
   | cons z r=>
    have hz:w1.l[0]? =some z:=by rw [hl1];rfl
    obtain⟨rfl,_⟩:=e4 z hz
    exact tmDue_not (hI1.some hz) c2
 ·have i0:=init y true g (fun hn=>by rw [hn]at hy;simp at hy) (fun z hz=>by rw [hy]at hz;cases hz;exact⟨rfl,rfl⟩)
  refine lp (fun x:DueS=>[.slice x.a x.out.length x.c,.pointer (some (ad x.g 0)),.bool x.ok]) (fun x=>bk x.g 191 [.int .i64 x.y.1,.int .i64 x.y.2]::x.ch::hpC b x.w::F) (DueI w tm now) (fun x=>x.w.l.length) ⟨w,tm,[],none,0,[],y,true,g,w.wh.length⟩ rfl drp i0 ?_
  rintro⟨w1,tm1,out,a,c,ch,y1,ok,g1,k⟩ ⟨hr,hI1,e1,e2,e3,e4,e5,e6,e7⟩
  dsimp only at *
  have fin1:tmDue k tm1 now=([],tm1)→∃front q1,Imp (bk g1 191 [.int .i64 y1.1,.int .i64 y1.2]::ch::hpC b w1::F) (front++(q1::F))∧K (.slice a out.length c) (front++put q1):=fun he=>by
   rw [he]at e5 e6
   simp only [List.map_nil,List.append_nil]at e5 e6
   have hlen:out.length=(tmDue w.wh.length tm now).1.length:=by rw [e5,List.length_map]
   have:=h w1 a c ch (by rw [←e6];exact hI1) e1 (by rw [←e5,←hlen];exact hr)
   rw [←hlen]at this
   exact⟨[ch],hpC b w1,drp (c':=ch::hpC b w1::F),this⟩
  have hnil:ok=false→tmDue k tm1 now=([],tm1):=fun hok=>tmDue_none (hI1.none (by
   cases hl1:w1.l with
   | nil=>rfl
   | cons z r=>have:=e4 z (by rw [hl1];rfl);rw [hok]at this;cases this.2))
  refine goj ?_
  dsimp only
  refine⟨fun c1=>⟨fun c2=> ?_,fun c2=>fin1 ?_⟩,fun c1=>fin1 (hnil c1)⟩
  ·have hne:w1.l≠[]:=fun hh=>by rw [e3 hh]at c1;cases c1
   obtain⟨z,r,hzr⟩:=List.exists_cons_of_ne_nil hne
   have hz:w1.l[0]? =some z:=by rw [hzr];rfl
   obtain⟨rfl,_⟩:=e4 z hz
   have hmin:=hI1.some hz
   have hpos:0<w1.l.length:=by rw [hzr];simp
   have hk:k=(k-1)+1:=by omega
   have hstep:tmDue k tm1 now=((y1.1,y1.2.toNat)::(tmDue (k-1) (tm1.set y1.2.toNat never) now).1,(tmDue (k-1) (tm1.set y1.2.toNat never) now).2):=by
    rw [hk];simp only [tmDue,hmin,c2,if_true,Nat.add_sub_cancel]
   have cy:=hI1.cns.c1 0 y1 hz
   have hfn:fromNat (y1.1,y1.2.toNat)=y1:=by unfold fromNat;ext <;>simp;omega
   rw [hstep]at e5 e6
   simp only [List.map_cons,hfn]at e5 e6
   have hw1:=hI1.cns.len
   have hw1l:=w1.hl
   refine⟨tm1,y1,hz,hI1,fun w2 k1 k2 k3=>⟨⟨by omega,by omega,by omega⟩,y1,rfl,fun a2 c3 ch2 hr2 g2=>⟨fun hn2=> ?_,fun z2 hz2=> ?_⟩⟩⟩
   ·refine⟨⟨w2,tm1.set y1.2.toNat never,out++[y1],a2,c3,ch2,(0,0),false,g2,k-1⟩,by simp,drp,⟨by simp only [List.length_append,List.length_singleton];exact hr2,k1,by simp only;omega,by simp only;omega,fun _=>rfl,fun z hz=>by simp only at hz;rw [hn2]at hz;simp at hz,by simp only;rw [←e5];simp,by simp only;exact e6,by simp only [List.length_append,List.length_singleton];omega⟩,by simp only;omega⟩
   ·refine⟨⟨w2,tm1.set y1.2.toNat never,out++[y1],a2,c3,ch2,z2,true,g2,k-1⟩,by simp,drp,⟨by simp only [List.length_append,List.length_singleton];exact hr2,k1,by simp only;omega,by simp only;omega,fun hn=>by simp only at hn;rw [hn]at hz2;simp at hz2,fun z hz=>by simp only at hz;rw [hz2]at hz;cases hz;exact⟨rfl,rfl⟩,by simp only;rw [←e5];simp,by simp only;exact e6,by simp only [List.length_append,List.length_singleton];omega⟩,by simp only;omega⟩
  ·cases hl1:w1.l with
   | nil=>exact tmDue_none (hI1.none hl1)
   | cons z r=>
    have hz:w1.l[0]? =some z:=by rw [hl1];rfl
    obtain⟨rfl,_⟩:=e4 z hz
    exact tmDue_not (hI1.some hz) c2⟩
end
end Go.Proofs.YtbjlfobjngogkaaGreatDoor
namespace Go.Proofs.YtbjlfobjngogkaaGreatDoor
def seatId:Option Seat→Int
 | none=>-1
 | some x=>x.id
structure Eng.Ok (e:Eng):Prop where
 sg:good e.s=true
 l1:e.seats.length=e.s.live.toNat
 l3:e.turns.most=e.s.live.toNat
 l4:e.tm.length=e.s.live.toNat
 w:e.seats.map seatId=e.slots.who
 nd:∀i j x y,e.seat i=some x→e.seat j=some y→x.id=y.id→i=j
 nx:∀k x,e.seat k=some x→0≤x.id∧x.id<e.slots.next
 n0:0≤e.slots.next
 dO:∀k x,e.seat k=some x→x.d.Ok∧x.d.s=e.s∧x.d.now≤e.clock
 tq:∀k∈e.turns.q,∃x,e.seat k=some x
 tn:e.turns.q.Nodup
 tw:∀k:Nat,e.turns.who=k→k∉e.turns.q
 tm:∀k,e.tm.getD k never≠never→∃x,e.seat k=some x
 tv:∀t∈e.tm,t≤never
 c0:0≤e.clock
 c1:e.clock<never
 sc:∀p∈e.scripts,p.Fit
 sl:e.scripts.length≤64
theorem seat_get {e:Eng} {k:Nat} {x:Seat}:e.seat k=some x↔e.seats[k]? =some (some x):=by
 unfold Eng.seat
 rw [List.getD_eq_getElem?_getD]
 cases e.seats[k]? with
 | none=>simp
 | some o=>simp
theorem seat_lt {e:Eng} {k:Nat} {x:Seat} (h:e.seat k=some x):k<e.seats.length:=by
 have:=seat_get.1 h
 exact(List.getElem?_eq_some_iff.1 this).1
theorem Eng.Ok.lt {e:Eng} (h:e.Ok) {k:Nat} {x:Seat} (hk:e.seat k=some x):k<e.s.live.toNat:=by have:=seat_lt hk;rw [h.l1]at this;exact this
theorem Eng.Ok.l2 {e:Eng} (h:e.Ok):e.slots.who.length=e.s.live.toNat:=by rw [←h.w,List.length_map,h.l1]
theorem Eng.Ok.who {e:Eng} (h:e.Ok) {k:Nat} {x:Seat} (hk:e.seat k=some x):e.slots.who[k]? =some x.id:=by
 rw [←h.w,List.getElem?_map,seat_get.1 hk];rfl
theorem idxOf_eq {l:List Int} {a:Int} {k:Nat} (h:l[k]? =some a) (hn:∀i,l[i]? =some a→i=k):l.idxOf a=k:=by
 have hm:a∈l:=List.mem_of_getElem? h
 have h1:l.idxOf a<l.length:=List.idxOf_lt_length_iff.2 hm
 refine hn _ ?_
 rw [List.getElem?_eq_getElem h1,List.getElem_idxOf]
theorem Eng.Ok.slot_of {e:Eng} (h:e.Ok) {k:Nat} {x:Seat} (hk:e.seat k=some x):e.slots.slot x.id=some k:=by
 have h0:=h.nx k x hk
 have hw:=h.who hk
 unfold Slots.slot
 rw [if_pos ⟨h0.1,List.mem_of_getElem? hw⟩]
 congr 1
 refine idxOf_eq hw fun i hi=> ?_
 rw [←h.w,List.getElem?_map]at hi
 cases hs:e.seats[i]? with
 | none=>rw [hs]at hi;simp at hi
 | some o=>cases o with
  | none=>rw [hs]at hi;simp [seatId]at hi;omega
  | some y=>
   rw [hs]at hi
   simp [seatId]at hi
   exact h.nd i k y x (seat_get.2 hs) hk hi
theorem Eng.Ok.of_slot {e:Eng} (h:e.Ok) {k:Nat} {id:Int} (hk:e.slots.slot id=some k):∃x,e.seat k=some x∧x.id=id:=by
 unfold Slots.slot at hk
 split at hk
 ·rename_i hc
  cases hk
  have h1:e.slots.who.idxOf id<e.slots.who.length:=List.idxOf_lt_length_iff.2 hc.2
  have h2:e.slots.who[e.slots.who.idxOf id]? =some id:=by rw [List.getElem?_eq_getElem h1,List.getElem_idxOf]
  generalize e.slots.who.idxOf id=k at *
  rw [←h.w,List.getElem?_map]at h2
  cases hs:e.seats[k]? with
  | none=>rw [hs]at h2;simp at h2
  | some o=>cases o with
   | none=>rw [hs]at h2;simp [seatId]at h2;omega
   | some y=>
    rw [hs]at h2
    simp [seatId]at h2
    exact⟨y,seat_get.2 hs,h2⟩
 ·cases hk
theorem tell_ok {e:Eng} (h:e.Ok) (x:EvM):(e.tell x).Ok:={h with}
theorem setSeat_seat {e:Eng} {k:Nat} {x:Seat} (hk:e.seat k=some x) (y:Seat) (i:Nat):(e.setSeat k (some y)).seat i=if i=k then some y else e.seat i:=by
 have hl:=seat_lt hk
 unfold Eng.setSeat Eng.seat
 rw [List.getD_eq_getElem?_getD,List.getD_eq_getElem?_getD,List.getElem?_set]
 by_cases hi:k=i
 ·subst hi;simp [hl]
 ·rw [if_neg hi,if_neg (fun e=>hi e.symm)]
theorem setSeat_ok {e:Eng} (h:e.Ok) {k:Nat} {x y:Seat} (hk:e.seat k=some x) (hid:y.id=x.id) (hd:y.d.Ok∧y.d.s=e.s∧y.d.now≤e.clock):(e.setSeat k (some y)).Ok:=by
 have hs:=setSeat_seat hk y
 have ex:∀i,(∃z,e.seat i=some z)→∃z,(e.setSeat k (some y)).seat i=some z:=by
  intro i ⟨z,hz⟩
  rw [hs];split
  ·exact⟨y,rfl⟩
  ·exact⟨z,hz⟩
 refine{h with l1:= ?_,w:= ?_,nd:= ?_,nx:= ?_,dO:= ?_,tq:= ?_,tm:= ?_}
 ·unfold Eng.setSeat;simp only [List.length_set];exact h.l1
 ·unfold Eng.setSeat
  simp only [List.map_set]
  rw [h.w]
  have hw:=h.who hk
  apply List.ext_getElem?
  intro i
  rw [List.getElem?_set]
  split
  ·rename_i hi;subst hi
   rw [hw]
   have:=(List.getElem?_eq_some_iff.1 hw).1
   simp [this,seatId,hid]
  ·rfl
 ·intro i j a b ha hb hab
  rw [hs]at ha hb
  split at ha <;>split at hb
  ·omega
  ·rename_i h1 h2;cases ha;rw [hid]at hab;rw [h1];exact h.nd _ _ _ _ hk hb hab
  ·rename_i h1 h2;cases hb;rw [hid]at hab;rw [h2];exact h.nd _ _ _ _ ha hk hab
  ·exact h.nd _ _ _ _ ha hb hab
 ·intro i a ha
  rw [hs]at ha
  split at ha
  ·cases ha;rw [hid];exact h.nx _ _ hk
  ·exact h.nx _ _ ha
 ·intro i a ha
  rw [hs]at ha
  split at ha
  ·cases ha;exact hd
  ·exact h.dO _ _ ha
 ·intro i hi;exact ex i (h.tq i hi)
 ·intro i hi;exact ex i (h.tm i hi)
theorem qpush_mem {q:List Nat} {i j:Nat}:j∈qpush q i↔j∈q∨j=i:=by
 unfold qpush;split
 ·constructor
  ·exact .inl
  ·rintro(h | rfl) <;>assumption
 ·simp
theorem qpush_nodup {q:List Nat} {i:Nat} (h:q.Nodup):(qpush q i).Nodup:=by
 unfold qpush;split
 ·exact h
 ·rename_i hi
  rw [List.nodup_append]
  exact⟨h,by simp,fun a ha b hb e=>by simp at hb;subst hb;subst e;exact hi ha⟩
theorem set_le {l:List Int} {k:Nat} {v:Int} (h:∀t∈l,t≤never) (hv:v≤never):∀t∈l.set k v,t≤never:=by
 intro t ht
 rcases List.mem_or_eq_of_mem_set ht with ht | rfl
 ·exact h t ht
 ·exact hv
theorem next_le (d:Dia):d.next≤never:=by
 unfold Dia.next;split
 ·exact tleast_le _
 ·exact Int.le_refl _
theorem tmSet_le {l:List Int} {k:Nat} (d:Dia) (h:∀t∈l,t≤never):∀t∈tmSet l k d.next,t≤never:=by
 unfold tmSet
 refine set_le h ?_
 split
 ·exact Int.le_refl _
 ·exact own_le (next_le d)
theorem settle_ok {e:Eng} (h:e.Ok) {k:Nat}:(e.settle k).Ok:=by
 unfold Eng.settle
 cases hk:e.seat k with
 | none=>exact h
 | some x=>
  dsimp only
  have hlt:=h.lt hk
  have htm:∀i,(tmSet e.tm k x.d.next).getD i never≠never→∃z,e.seat i=some z:=by
   intro i hi
   by_cases hik:i=k
   ·subst hik;exact⟨x,hk⟩
   ·refine h.tm i ?_
    unfold tmSet at hi
    rw [List.getD_eq_getElem?_getD,List.getElem?_set_ne (Ne.symm hik),←List.getD_eq_getElem?_getD]at hi
    exact hi
  split
  ·unfold Turns.wake
   split
   ·refine{h with l4:= ?_,tm:=htm,tv:=tmSet_le x.d h.tv}
    unfold tmSet;simp only [List.length_set];exact h.l4
   ·rename_i hw
    refine{h with l4:= ?_,tm:=htm,tv:=tmSet_le x.d h.tv,tq:= ?_,tn:=qpush_nodup h.tn,tw:= ?_}
    ·unfold tmSet;simp only [List.length_set];exact h.l4
    ·intro i hi
     rcases qpush_mem.1 hi with hi | rfl
     ·exact h.tq i hi
     ·exact⟨x,hk⟩
    ·intro i hi hm
     rcases qpush_mem.1 hm with hm | rfl
     ·exact h.tw i hi hm
     ·exact hw hi
  ·refine{h with l4:= ?_,tm:=htm,tv:=tmSet_le x.d h.tv}
   unfold tmSet;simp only [List.length_set];exact h.l4
theorem settle_seat (e:Eng) (k i:Nat):(e.settle k).seat i=e.seat i:=by
 unfold Eng.settle
 cases hk:e.seat k with
 | none=>rfl
 | some x=>rfl
theorem settle_out (e:Eng) (k:Nat):(e.settle k).out=e.out:=by
 unfold Eng.settle
 cases hk:e.seat k <;>rfl
theorem erase_mem {q:List Nat} (h:q.Nodup) {i k:Nat}:i∈q.erase k↔i≠k∧i∈q:=h.mem_erase_iff
theorem leave_q {t:Turns} (k:Nat) (hn:t.q.Nodup) (hw:∀k:Nat,t.who=k→k∉t.q):(t.leave k).most=t.most∧(t.leave k).q.Nodup∧(∀i,i∈(t.leave k).q→i∈t.q∧i≠k)∧∀i:Nat,(t.leave k).who=i→i∉(t.leave k).q:=by
 unfold Turns.leave
 split
 ·rename_i hk
  unfold Turns.fin
  split
  ·rename_i h1;omega
  ·simp only [Bool.false_eq_true,if_false]
   refine⟨trivial,hn,fun i hi=>⟨hi,fun e=>hw k hk (e▸hi)⟩,fun i hi=>by omega⟩
 ·rename_i hk
  split
  ·rename_i hm
   refine⟨rfl,hn.erase k,fun i hi=> ?_,fun i hi hm2=> ?_⟩
   ·have:=(erase_mem hn).1 hi;exact⟨this.2,this.1⟩
   ·exact hw i hi ((erase_mem hn).1 hm2).2
  ·rename_i hm
   exact⟨rfl,hn,fun i hi=>⟨hi,fun e=>hm (e▸hi)⟩,hw⟩
theorem gone_seat {e:Eng} {k:Nat} {id:Int} (i:Nat):(e.gone k id).seat i=if i=k then none else e.seat i:=by
 unfold Eng.gone Eng.seat
 simp only
 rw [List.getD_eq_getElem?_getD,List.getD_eq_getElem?_getD,List.getElem?_set]
 by_cases hi:k=i
 ·subst hi;rw [if_pos rfl,if_pos rfl];split <;>simp
 ·rw [if_neg hi,if_neg (fun e=>hi e.symm)]
theorem gone_ok {e:Eng} (h:e.Ok) {k:Nat} {x:Seat} (hk:e.seat k=some x):(e.gone k x.id).Ok:=by
 have hs:=fun i=>gone_seat (e:=e) (k:=k) (id:=x.id) i
 obtain⟨q1,q2,q3,q4⟩:=leave_q k h.tn h.tw
 have hsl:=h.slot_of hk
 have ex:∀i,i≠k→(∃z,e.seat i=some z)→∃z,(e.gone k x.id).seat i=some z:=by
  intro i hik ⟨z,hz⟩
  rw [hs,if_neg hik];exact⟨z,hz⟩
 refine{h with l1:= ?_,l3:= ?_,l4:= ?_,w:= ?_,nd:= ?_,nx:= ?_,n0:= ?_,dO:= ?_,tq:= ?_,tn:=q2,tw:=q4,tm:= ?_,tv:=set_le h.tv (Int.le_refl _)}
 ·unfold Eng.gone;simp only [List.length_set];exact h.l1
 ·exact q1.trans h.l3
 ·unfold Eng.gone;simp only [List.length_set];exact h.l4
 ·unfold Eng.gone Slots.close
  rw [hsl]
  simp only [List.map_set,h.w]
  rfl
 ·intro i j a b ha hb hab
  rw [hs]at ha hb
  split at ha
  ·cases ha
  ·split at hb
   ·cases hb
   ·exact h.nd _ _ _ _ ha hb hab
 ·intro i a ha
  rw [hs]at ha
  split at ha
  ·cases ha
  ·have:=h.nx _ _ ha
   unfold Eng.gone Slots.close
   rw [hsl];exact this
 ·unfold Eng.gone Slots.close
  rw [hsl];exact h.n0
 ·intro i a ha
  rw [hs]at ha
  split at ha
  ·cases ha
  ·exact h.dO _ _ ha
 ·intro i hi
  have:=q3 i hi
  exact ex i this.2 (h.tq i this.1)
 ·intro i hi
  by_cases hik:i=k
  ·subst hik
   exfalso;apply hi
   unfold Eng.gone
   simp only
   rw [List.getD_eq_getElem?_getD,List.getElem?_set]
   rw [if_pos rfl];split <;>rfl
  ·refine ex i hik (h.tm i ?_)
   unfold Eng.gone at hi
   simp only at hi
   rw [List.getD_eq_getElem?_getD,List.getElem?_set_ne (Ne.symm hik),←List.getD_eq_getElem?_getD]at hi
   exact hi
structure Dia.Like (d d':Dia):Prop where
 s:d'.s=d.s
 p:d'.p=d.p
 now:d'.now=d.now
 eof:d'.eof=d.eof
theorem Dia.Like.refl (d:Dia):d.Like d:=⟨rfl,rfl,rfl,rfl⟩
theorem come_like (d:Dia) (to:Int):d.Like (d.come to):=by
 unfold Dia.come;repeat' split
 all_goals exact⟨rfl,rfl,rfl,rfl⟩
theorem come_status (d:Dia) (to:Int):(d.come to).status=d.status:=by
 unfold Dia.come;repeat' split
 all_goals rfl
theorem stop_like (d:Dia) (st:Int):d.Like (d.stop st):=⟨rfl,rfl,rfl,rfl⟩
theorem jump_like (d:Dia) (x:StepM) (to:Int):d.Like (d.jump x to).2:=by
 unfold Dia.jump;split
 ·exact stop_like _ _
 ·split
  ·exact stop_like _ _
  ·have:=come_like {d with jumps:=d.jumps+1} to
   exact⟨this.s,this.p,this.now,this.eof⟩
theorem like_look {d:Dia} {w:Win} {q:List UInt8} {d':Dia} (h:Dia.Like {d with win:=w,inq:=q} d'):d.Like d':=⟨h.s,h.p,h.now,h.eof⟩
theorem look_like (d:Dia) (x:StepM) (o:OpM):d.Like (d.look x o).2:=by
 unfold Dia.look
 cases d.win.m with
 | none=>exact Dia.Like.refl d
 | some m=>
  dsimp only
  split
  ·exact like_look (jump_like _ _ _)
  ·split
   ·exact like_look (stop_like _ _)
   ·split
    ·exact like_look (jump_like _ _ _)
    ·split
     ·exact like_look (jump_like _ _ _)
     ·exact⟨rfl,rfl,rfl,rfl⟩
theorem does_like (d:Dia) (x:StepM):d.Like (d.does x).2:=by
 unfold Dia.does
 split
 ·exact stop_like _ _
 ·split
  ·unfold Dia.send;split
   ·exact⟨rfl,rfl,rfl,rfl⟩
   ·exact come_like _ _
  ·split
   ·exact look_like _ _ _
   ·split
    ·exact jump_like _ _ _
    ·split
     ·exact come_like _ _
     ·split <;>exact stop_like _ _
theorem step_like {d d':Dia} {now:Int} {y:StepM} (h:d.step now=some (y,d')):d'.s=d.s∧d'.p=d.p∧d'.now=max d.now now∧d'.eof=d.eof∧d'=(d.did now).2∧d.ready now=true:=by
 unfold Dia.step at h
 split at h
 ·rename_i hr
  cases h
  have:=does_like (d.tick now) ⟨(d.tick now).now,d.at_,0,0,0,0⟩
  exact⟨this.s,this.p,this.now,this.eof,rfl,hr⟩
 ·cases h
theorem ready_runs {d:Dia} {now:Int} (h:d.ready now=true):d.status=0:=by
 unfold Dia.ready Dia.runs at h
 simp at h;exact h.1
theorem step_ok' {d d':Dia} {now:Int} {y:StepM} (hd:d.Ok) (hn:now≤never) (h:d.step now=some (y,d')):d'.Ok:=by
 obtain⟨_,_,_,_,h5,h6⟩:=step_like h
 rw [h5];exact did_ok hd (ready_runs h6) hn
theorem put_like (d:Dia) (b:List UInt8):(d.put b).s=d.s∧(d.put b).status=d.status∧(d.put b).now=d.now:=by unfold Dia.put;split <;>exact⟨rfl,rfl,rfl⟩
theorem ends_like (d:Dia):d.ends.s=d.s∧d.ends.status=d.status∧d.ends.now=d.now:=by unfold Dia.ends;split <;>exact⟨rfl,rfl,rfl⟩
theorem take_like (d:Dia) (n:Int):(d.take n).s=d.s∧(d.take n).status=d.status∧(d.take n).now=d.now:=by unfold Dia.take;split <;>exact⟨rfl,rfl,rfl⟩
theorem cut_like (d:Dia) (t:Int):(d.cut t).s=d.s∧(d.cut t).status=d.status∧(d.cut t).now=d.now:=by unfold Dia.cut;split <;>exact⟨rfl,rfl,rfl⟩
theorem new_like (s:Setup) (p:PrM) (now:Int):(Dia.new s p now).s=s∧(Dia.new s p now).p=p∧(Dia.new s p now).status=0∧(Dia.new s p now).now=own now∧(Dia.new s p now).eof=false:=by
 unfold Dia.new
 have:=come_like ⟨s,p,0,0,0,Due.begin (own now) p.dl,[],⟨[],0,none⟩,Wtr.new s.out,false,own now⟩ 0
 exact⟨this.s,this.p,come_status _ _,this.now,this.eof⟩
theorem step_eng_ok {e:Eng} (h:e.Ok) (k:Nat):(e.step k).2.Ok:=by
 unfold Eng.step
 cases hk:e.seat k with
 | none=>exact h
 | some x=>
  dsimp only
  obtain⟨d1,d2,d4⟩:=h.dO k x hk
  cases hst:x.d.step e.clock with
  | none=>
   dsimp only
   split
   ·exact h
   ·exact gone_ok h hk
  | some y=>
   obtain⟨y,d'⟩:=y
   dsimp only
   obtain⟨s1,s2,s3,s4,s5,s6⟩:=step_like hst
   have hok:=step_ok' d1 (by have:=h.c1;omega) hst
   split
   ·rename_i h0
    exact tell_ok (setSeat_ok (y:={x with d:=d'}) h hk rfl ⟨hok,s1.trans d2,by simp only;rw [s3];omega⟩) _
   ·have hgo:=gone_ok h hk
    have hs:=setSeat_seat hk {x with d:=d'}
    refine{hgo with l1:= ?_,w:= ?_,nd:= ?_,nx:= ?_,dO:= ?_,tq:= ?_,tm:= ?_}
    all_goals simp only [Eng.tell,Eng.setSeat,Eng.gone,Eng.seat,List.set_set]at *
    ·exact hgo.l1
    ·exact hgo.w
    ·exact hgo.nd
    ·exact hgo.nx
    ·exact hgo.dO
    ·exact hgo.tq
    ·exact hgo.tm
theorem step_seat {e:Eng} (h:e.Ok) {k:Nat} {x:Seat} (hk:e.seat k=some x):((e.step k).1=true→∃y,(e.step k).2.seat k=some y∧y.id=x.id)∧∀i,i≠k→(e.step k).2.seat i=e.seat i:=by
 unfold Eng.step
 rw [hk]
 dsimp only
 obtain⟨d1,d2,d4⟩:=h.dO k x hk
 cases hst:x.d.step e.clock with
 | none=>
  dsimp only
  split
  ·exact⟨fun _=>⟨x,hk,rfl⟩,fun _ _=>rfl⟩
  ·refine⟨fun hc=>(by cases hc),fun i hi=> ?_⟩
   rw [gone_seat,if_neg hi]
 | some y=>
  dsimp only
  split
  ·have hs:=setSeat_seat hk {x with d:=y.2}
   refine⟨fun _=>⟨{x with d:=y.2},?_,rfl⟩,fun i hi=> ?_⟩
   ·exact(hs k).trans (if_pos rfl)
   ·exact(hs i).trans (if_neg hi)
  ·refine⟨fun hc=>(by cases hc),fun i hi=> ?_⟩
   have hs:=setSeat_seat hk {x with d:=y.2} i
   rw [if_neg hi]at hs
   rw [gone_seat,if_neg hi]
   exact hs
theorem first_free {s:Slots} (h:s.free≠0):s.first<s.who.length∧s.who[s.first]? =some (-1):=by
 have hm:(-1:Int)∈s.who:=by
  unfold Slots.free at h
  exact List.count_pos_iff.1 (by omega)
 have h1:s.who.idxOf (-1)<s.who.length:=List.idxOf_lt_length_iff.2 hm
 refine⟨h1,?_⟩
 unfold Slots.first
 rw [List.getElem?_eq_getElem h1,List.getElem_idxOf]
theorem refused_facts {e:Eng} {n:Int} (h:e.refused n=0):(0≤n∧n<e.scripts.length)∧goodP (e.scripts.getD n.toNat PrM.zero)=true∧e.drains=false∧e.slots.next<4096∧e.slots.free≠0:=by
 unfold Eng.refused at h
 split at h
 ·cases h
 ·split at h
  ·cases h
  ·split at h
   ·cases h
   ·split at h
    ·cases h
    ·split at h
     ·cases h
     ·rename_i h1 h2 h3 h4 h5
      exact⟨by omega,by simpa using h2,by simpa using h3,by omega,h5⟩
theorem script_mem {e:Eng} {n:Int} (h:0≤n∧n<e.scripts.length):e.scripts.getD n.toNat PrM.zero∈e.scripts:=by
 have:n.toNat<e.scripts.length:=by omega
 rw [List.getD_eq_getElem?_getD,List.getElem?_eq_getElem this]
 exact List.getElem_mem this
theorem open_pre {e:Eng} (h:e.Ok) {n:Int} (hr:e.refused n=0):
  Eng.Ok {e with slots:=e.slots.open,seats:=e.seats.set e.slots.first (some ⟨e.slots.next,Dia.new e.s (e.scripts.getD n.toNat PrM.zero) e.clock,[],false⟩),out:=e.out++[evOpen e.slots.next n]}:=by
 obtain⟨r1,r2,r3,r4,r5⟩:=refused_facts hr
 obtain⟨f1,f2⟩:=first_free r5
 rw [h.l2]at f1
 have hsn:e.seat e.slots.first=none:=by
  cases hs:e.seat e.slots.first with
  | none=>rfl
  | some x=>
   have:=h.who hs
   rw [f2]at this
   have h2:=(h.nx _ _ hs).1
   have h3:=Option.some.inj this
   omega
 have hn:=new_like e.s (e.scripts.getD n.toNat PrM.zero) e.clock
 have hs:∀i,(({e with slots:=e.slots.open,seats:=e.seats.set e.slots.first (some ⟨e.slots.next,Dia.new e.s (e.scripts.getD n.toNat PrM.zero) e.clock,[],false⟩),out:=e.out++[evOpen e.slots.next n]}:Eng).seat i)=if i=e.slots.first then some ⟨e.slots.next,Dia.new e.s (e.scripts.getD n.toNat PrM.zero) e.clock,[],false⟩else e.seat i:=by
  intro i
  unfold Eng.seat
  simp only
  rw [List.getD_eq_getElem?_getD,List.getD_eq_getElem?_getD,List.getElem?_set]
  by_cases hi:e.slots.first=i
  ·subst hi;rw [if_pos rfl,if_pos rfl,if_pos (by rw [h.l1];exact f1)];rfl
  ·rw [if_neg hi,if_neg (fun e=>hi e.symm),List.getD_eq_getElem?_getD]
 have ex:∀i,(∃z,e.seat i=some z)→∃z,(({e with slots:=e.slots.open,seats:=e.seats.set e.slots.first (some ⟨e.slots.next,Dia.new e.s (e.scripts.getD n.toNat PrM.zero) e.clock,[],false⟩),out:=e.out++[evOpen e.slots.next n]}:Eng).seat i)=some z:=by
  intro i ⟨z,hz⟩
  rw [hs];split
  ·exact⟨_,rfl⟩
  ·exact⟨z,hz⟩
 refine{h with l1:= ?_,w:= ?_,nd:= ?_,nx:= ?_,n0:= ?_,dO:= ?_,tq:= ?_,tm:= ?_}
 ·simp only [List.length_set];exact h.l1
 ·simp only [Slots.open,List.map_set,h.w];rfl
 ·intro i j a b ha hb hab
  rw [hs]at ha hb
  split at ha <;>split at hb
  ·omega
  ·cases ha;have:=(h.nx _ _ hb).2;simp only at hab;omega
  ·cases hb;have:=(h.nx _ _ ha).2;simp only at hab;omega
  ·exact h.nd _ _ _ _ ha hb hab
 ·intro i a ha
  have hn0:=h.n0
  rw [hs]at ha
  simp only [Slots.open]
  split at ha
  ·cases ha;simp only;omega
  ·have:=h.nx _ _ ha;omega
 ·have hn0:=h.n0;simp only [Slots.open];omega
 ·intro i a ha
  rw [hs]at ha
  have hc0:=h.c0
  have hc1:=h.c1
  split at ha
  ·cases ha
   refine⟨new_ok h.sg r2 (h.sc _ (script_mem r1)) (by omega),hn.1,?_⟩
   simp only;rw [hn.2.2.2.1];unfold own;omega
  ·exact h.dO _ _ ha
 ·intro i hi;exact ex i (h.tq i hi)
 ·intro i hi;exact ex i (h.tm i hi)
theorem skip_ok {e:Eng} (h:e.Ok) (x:EvM):Eng.Ok {e with slots:=e.slots.skip,out:=e.out++[x]}:=by
 have hn0:=h.n0
 refine{h with w:= ?_,nx:= ?_,n0:= ?_}
 ·unfold Slots.skip;split <;>exact h.w
 ·intro i a ha
  have:=h.nx i a ha
  unfold Slots.skip;split
  ·exact this
  ·simp only;omega
 ·unfold Slots.skip;split
  ·exact hn0
  ·simp only;omega
theorem open_ok {e:Eng} (h:e.Ok) (n:Int):(e.open n).Ok:=by
 unfold Eng.open
 split
 ·exact skip_ok h _
 ·rename_i hr
  exact settle_ok (open_pre h (Decidable.not_not.1 hr))
theorem offer_ok {e:Eng} (h:e.Ok) (o:OfferM):(e.offer o).Ok:=by
 unfold Eng.offer
 cases hs:e.slots.slot o.id with
 | none=>exact h
 | some k=>
  dsimp only
  obtain⟨x,hk,_⟩:=h.of_slot hs
  rw [hk]
  dsimp only
  split
  ·exact h
  ·exact setSeat_ok (y:={x with q:=x.q++o.bytes.data.toList,eof:=o.eof}) h hk rfl (h.dO k x hk)
theorem cut1_ok {e:Eng} (h:e.Ok) (t:Int) (now:Bool) (id:Int):(e.cut1 t now id).Ok:=by
 unfold Eng.cut1
 cases hs:e.slots.slot id with
 | none=>exact h
 | some k=>
  dsimp only
  obtain⟨x,hk,_⟩:=h.of_slot hs
  rw [hk]
  dsimp only
  obtain⟨d1,d2,d4⟩:=h.dO _ _ hk
  have hc:=cut_like x.d t
  have h1:(e.setSeat k (some {x with d:=x.d.cut t})).Ok:=setSeat_ok (y:={x with d:=x.d.cut t}) h hk rfl ⟨cut_ok d1 t,hc.1.trans d2,by simp only;rw [hc.2.2];exact d4⟩
  split
  ·exact settle_ok h1
  ·split
   ·exact settle_ok (step_eng_ok h1 k)
   ·exact step_eng_ok h1 k
theorem foldl_ok {α:Type} {f:Eng→α→Eng} (hf:∀e a,e.Ok→(f e a).Ok):∀(l:List α) (e:Eng),e.Ok→(l.foldl f e).Ok
 | [],_,h=>h
 | a::l,e,h=>foldl_ok hf l _ (hf e a h)
theorem cut_eng_ok {e:Eng} (h:e.Ok) (t:Int) (now:Bool):(e.cut t now).Ok:=foldl_ok (fun e a h=>cut1_ok h t now a) _ _ {h with}
theorem drain_ok {e:Eng} (h:e.Ok) (r:RoundM):(e.drain r).Ok:=by
 unfold Eng.drain
 split
 ·exact cut_eng_ok h _ _
 ·split
  ·exact cut_eng_ok h _ _
  ·exact h
theorem read_ok {e:Eng} (h:e.Ok) (k:Nat):(e.read k).Ok∧∀x,e.seat k=some x→∃y,(e.read k).seat k=some y∧y.id=x.id:=by
 unfold Eng.read
 cases hk:e.seat k with
 | none=>exact⟨h,fun x hx=>by cases hx⟩
 | some x=>
  dsimp only
  obtain⟨d1,d2,d4⟩:=h.dO _ _ hk
  have hp:=put_like x.d (x.q.take x.d.room)
  by_cases h0:x.d.room=0
  ·rw [if_pos h0];exact⟨h,fun z hz=>⟨z,by rw [hk];exact hz,rfl⟩⟩
  ·rw [if_neg h0]
   have h1:(e.setSeat k (some x.read1)).Ok:=setSeat_ok h hk rfl ⟨put_ok d1 _,hp.1.trans d2,by show(x.d.put _).now≤_;rw [hp.2.2];exact d4⟩
   have hk1:(e.setSeat k (some x.read1)).seat k=some x.read1:=(setSeat_seat hk _ k).trans (if_pos rfl)
   have fin:∀(e1:Eng) (x1:Seat),e1.Ok→e1.seat k=some x1→x1.id=x.id→(if(x1.over&&(x1.d.runs&& !x1.d.eof))=true then(e1.setSeat k (some {x1 with d:=x1.d.ends})).tell (evEof x.id)else e1).Ok∧∀z,some x=some z→∃y,(if(x1.over&&(x1.d.runs&& !x1.d.eof))=true then(e1.setSeat k (some {x1 with d:=x1.d.ends})).tell (evEof x.id)else e1).seat k=some y∧y.id=z.id:=by
    intro e1 x1 g1 g2 g3
    obtain⟨q1,q2,q4⟩:=g1.dO _ _ g2
    have he:=ends_like x1.d
    split
    ·refine⟨tell_ok (setSeat_ok (y:={x1 with d:=x1.d.ends}) g1 g2 rfl ⟨ends_ok q1,he.1.trans q2,by simp only;rw [he.2.2];exact q4⟩) _,fun z hz=>⟨{x1 with d:=x1.d.ends},?_,?_⟩⟩
     ·exact(setSeat_seat g2 _ k).trans (if_pos rfl)
     ·cases hz;exact g3
    ·exact⟨g1,fun z hz=>⟨x1,g2,by cases hz;exact g3⟩⟩
   by_cases hr:x.reads=[]
   ·simp only [if_pos hr];exact fin e x h hk rfl
   ·simp only [if_neg hr];exact fin _ x.read1 (tell_ok h1 _) hk1 rfl
theorem write_ok {e:Eng} (h:e.Ok) (k:Nat) (n:Int):(e.write k n).Ok∧∀x,e.seat k=some x→∃y,(e.write k n).seat k=some y∧y.id=x.id:=by
 unfold Eng.write
 cases hk:e.seat k with
 | none=>exact⟨h,fun x hx=>by cases hx⟩
 | some x=>
  dsimp only
  obtain⟨d1,d2,d4⟩:=h.dO _ _ hk
  have hp:=take_like x.d n
  have h1:(e.setSeat k (some {x with d:=x.d.take n})).Ok:=setSeat_ok (y:={x with d:=x.d.take n}) h hk rfl ⟨take_ok d1 _,hp.1.trans d2,by simp only;rw [hp.2.2];exact d4⟩
  have hk1:(e.setSeat k (some {x with d:=x.d.take n})).seat k=some {x with d:=x.d.take n}:=(setSeat_seat hk _ k).trans (if_pos rfl)
  split
  ·exact⟨h1,fun z hz=>⟨_,hk1,by cases hz;rfl⟩⟩
  ·exact⟨tell_ok h1 _,fun z hz=>⟨_,hk1,by cases hz;rfl⟩⟩
theorem reported_ok {e:Eng} (h:e.Ok) (r:ReportM) (k:Nat):(e.reported r k).Ok∧∀x,e.seat k=some x→∃y,(e.reported r k).seat k=some y∧y.id=x.id:=by
 unfold Eng.reported
 have h1:(if r.read then e.read k else e).Ok∧∀x,e.seat k=some x→∃y,(if r.read then e.read k else e).seat k=some y∧y.id=x.id:=by
  split
  ·exact read_ok h k
  ·exact⟨h,fun x hx=>⟨x,hx,rfl⟩⟩
 dsimp only
 split
 ·refine⟨(write_ok h1.1 k _).1,fun x hx=> ?_⟩
  obtain⟨y,hy,e1⟩:=h1.2 x hx
  obtain⟨z,hz,e2⟩:=(write_ok h1.1 k r.accept).2 y hy
  exact⟨z,hz,e2.trans e1⟩
 ·exact h1
theorem report_ok {e:Eng} (h:e.Ok) (r:ReportM):(e.report r).Ok:=by
 unfold Eng.report
 cases hs:e.slots.slot r.id with
 | none=>exact h
 | some k=>
  dsimp only
  split
  ·exact settle_ok (reported_ok h r k).1
  ·exact(reported_ok h r k).1
theorem pay_ok {e:Eng} (h:e.Ok) (p:Int):Eng.Ok {e with turns:=(e.turns.pay p).1}:=by
 unfold Turns.pay
 split
 ·exact h
 ·split
  ·exact h
  ·exact{h with}
theorem spend_ok:∀(f:Nat) {e:Eng} (_:e.Ok) (k:Nat) {x:Seat} (_:e.seat k=some x),(Eng.spend f e k).2.Ok∧((Eng.spend f e k).1=true→∃y,(Eng.spend f e k).2.seat k=some y)
 | 0,e,h,k,x,hk=>⟨h,fun _=>⟨x,hk⟩⟩
 | f+1,e,h,k,x,hk=>by
  rw [Eng.spend,hk]
  dsimp only
  split
  ·split
   ·have h1:=pay_ok h x.d.price
    have h2:=step_eng_ok h1 k
    have h3:=(step_seat h1 (k:=k) (x:=x) hk).1
    split
    ·rename_i hl
     obtain⟨y,hy,_⟩:=h3 hl
     exact spend_ok f h2 k hy
    ·exact⟨h2,fun hc=>(by cases hc)⟩
   ·exact⟨h,fun _=>⟨x,hk⟩⟩
  ·exact⟨h,fun _=>⟨x,hk⟩⟩
theorem begin_facts {t:Turns} {k:Nat} (h:t.begin.2=some k) (hn:t.q.Nodup):k∈t.q∧t.begin.1.most=t.most∧t.begin.1.q.Nodup∧(∀i,i∈t.begin.1.q→i∈t.q)∧t.begin.1.who=k∧∀i:Nat,t.begin.1.who=i→i∉t.begin.1.q:=by
 unfold Turns.begin at h ⊢
 split at h
 ·cases h
 ·rename_i hw
  rw [if_neg hw]
  cases hq:t.q with
  | nil=>rw [hq]at h;cases h
  | cons i r=>
   rw [hq]at h hn
   cases h
   simp only [List.nodup_cons]at hn
   refine⟨by simp,rfl,hn.2,fun j hj=>by simp at hj ⊢;exact .inr hj,rfl,fun j hj=> ?_⟩
   simp only at hj ⊢
   have:j=k:=by omega
   rw [this];exact hn.1
theorem begin_ok {e:Eng} (h:e.Ok) {k:Nat} (hb:e.turns.begin.2=some k):Eng.Ok {e with turns:=e.turns.begin.1}∧∃x,e.seat k=some x:=by
 obtain⟨b1,b2,b3,b4,b5,b6⟩:=begin_facts hb h.tn
 refine⟨{h with l3:= ?_,tq:= ?_,tn:=b3,tw:=b6},h.tq k b1⟩
 ·exact b2.trans h.l3
 ·intro i hi;exact h.tq i (b4 i hi)
theorem rest_ok {e:Eng} (h:e.Ok) (k:Nat) (hw:e.turns.who=k):(e.rest k).Ok:=by
 unfold Eng.rest
 cases hk:e.seat k with
 | none=>exact h
 | some x=>
  dsimp only
  have htm:∀i,(tmSet e.tm k x.d.next).getD i never≠never→∃z,e.seat i=some z:=by
   intro i hi
   by_cases hik:i=k
   ·subst hik;exact⟨x,hk⟩
   ·refine h.tm i ?_
    unfold tmSet at hi
    rw [List.getD_eq_getElem?_getD,List.getElem?_set_ne (Ne.symm hik),←List.getD_eq_getElem?_getD]at hi
    exact hi
  unfold Turns.fin
  rw [if_neg (by omega)]
  have hkk:e.turns.who.toNat=k:=by omega
  split
  ·refine{h with l4:= ?_,tm:=htm,tv:=tmSet_le x.d h.tv,tq:= ?_,tn:=qpush_nodup h.tn,tw:= ?_}
   ·unfold tmSet;simp only [List.length_set];exact h.l4
   ·intro i hi
    rcases qpush_mem.1 hi with hi | hi
    ·exact h.tq i hi
    ·rw [hkk]at hi;subst hi;exact⟨x,hk⟩
   ·intro i hi;simp only at hi;omega
  ·refine{h with l4:= ?_,tm:=htm,tv:=tmSet_le x.d h.tv,tw:= ?_}
   ·unfold tmSet;simp only [List.length_set];exact h.l4
   ·intro i hi;simp only at hi;omega
theorem pay_who (t:Turns) (p:Int):(t.pay p).1.who=t.who∧(t.pay p).1.q=t.q∧(t.pay p).1.most=t.most:=by
 unfold Turns.pay;split
 ·exact⟨rfl,rfl,rfl⟩
 ·split <;>exact⟨rfl,rfl,rfl⟩
theorem step_turns {e:Eng} {k:Nat} (h:(e.step k).1=true):(e.step k).2.turns=e.turns:=by
 unfold Eng.step at h ⊢
 cases hk:e.seat k with
 | none=>rfl
 | some x=>
  rw [hk]at h
  dsimp only at h ⊢
  cases hst:x.d.step e.clock with
  | none=>
   rw [hst]at h
   dsimp only at h ⊢
   split
   ·rfl
   ·rename_i h1;rw [if_neg h1]at h;cases h
  | some y=>
   rw [hst]at h
   dsimp only at h ⊢
   split
   ·rfl
   ·rename_i h1;rw [if_neg h1]at h;cases h
theorem spend_who:∀(f:Nat) (e:Eng) (k:Nat),(Eng.spend f e k).1=true→(Eng.spend f e k).2.turns.who=e.turns.who
 | 0,e,k,_=>rfl
 | f+1,e,k,h=>by
  rw [Eng.spend]at h ⊢
  cases hk:e.seat k with
  | none=>rfl
  | some x=>
   rw [hk]at h
   dsimp only at h ⊢
   split
   ·rename_i h1
    rw [if_pos h1]at h
    split
    ·rename_i h2
     rw [if_pos h2]at h
     split
     ·rename_i h3
      rw [if_pos h3]at h
      rw [spend_who f _ k h,step_turns h3]
      exact(pay_who _ _).1
     ·rename_i h3
      rw [if_neg h3]at h;cases h
    ·rfl
   ·rfl
theorem turn_ok {e:Eng} (h:e.Ok):e.turn.2.Ok:=by
 unfold Eng.turn
 cases hb:e.turns.begin.2 with
 | none=>exact h
 | some k=>
  dsimp only
  obtain⟨h1,x,hk⟩:=begin_ok h hb
  have hs:=spend_ok ((e.turns.begin.1.has.getD k 0).toNat+1) h1 k (x:=x) hk
  split
  ·rename_i hy
   refine rest_ok hs.1 k ?_
   rw [spend_who _ _ _ hy]
   exact(begin_facts hb h.tn).2.2.2.2.1
  ·exact hs.1
theorem visit_ok:∀(v:Nat) {e:Eng},e.Ok→(Eng.visit v e).Ok
 | 0,_,h=>h
 | v+1,e,h=>by
  rw [Eng.visit];split
  ·exact visit_ok v (turn_ok h)
  ·exact h
theorem tmMin_get {tm:List Int} {t:Int} {j:Nat} (hv:∀t∈tm,t≤never) (h:tmMin tm 0=some (t,j)):t≠never∧j<tm.length∧tm.getD j never=t:=by
 have:=tmMin_spec tm 0 hv
 rw [h]at this
 obtain⟨_,h2,h3,h4,_⟩:=this
 rw [Nat.sub_zero]at h2 h3
 refine⟨h4,h2,?_⟩
 rw [List.getD_eq_getElem?_getD,List.getElem?_eq_getElem h2]at h3 ⊢
 exact h3
theorem tmDue_facts:∀(f:Nat) (tm:List Int) (now:Int),(∀t∈tm,t≤never)→(tmDue f tm now).2.length=tm.length∧(∀t∈(tmDue f tm now).2,t≤never)∧(∀k,(tmDue f tm now).2.getD k never≠never→tm.getD k never≠never)∧∀y∈(tmDue f tm now).1,tm.getD y.2 never≠never∧y.2<tm.length
 | 0,tm,now,hv=>⟨rfl,hv,fun _ h=>h,by simp [tmDue]⟩
 | f+1,tm,now,hv=>by
  rw [tmDue]
  cases hm:tmMin tm 0 with
  | none=>exact⟨rfl,hv,fun _ h=>h,by simp⟩
  | some y=>
   obtain⟨t,k⟩:=y
   dsimp only
   obtain⟨m1,m2,m3⟩:=tmMin_get hv hm
   split
   ·obtain⟨i1,i2,i3,i4⟩:=tmDue_facts f (tm.set k never) now (set_le hv (Int.le_refl _))
    have back:∀j,(tm.set k never).getD j never≠never→tm.getD j never≠never:=by
     intro j hj
     by_cases hjk:k=j
     ·subst hjk
      rw [List.getD_eq_getElem?_getD,List.getElem?_set_self m2]at hj
      exact absurd rfl hj
     ·rw [List.getD_eq_getElem?_getD,List.getElem?_set_ne hjk,←List.getD_eq_getElem?_getD]at hj
      exact hj
    refine⟨by rw [i1,List.length_set],i2,fun j hj=>back j (i3 j hj),fun y hy=> ?_⟩
    rcases List.mem_cons.1 hy with rfl | hy
    ·exact⟨by rw [m3];exact m1,m2⟩
    ·have:=i4 y hy
     rw [List.length_set]at this
     exact⟨back _ this.1,this.2⟩
   ·exact⟨rfl,hv,fun _ h=>h,by simp⟩
theorem wakeAll_ok {e:Eng} (h:e.Ok):e.wakeAll.Ok:=by
 obtain⟨i1,i2,i3,i4⟩:=tmDue_facts e.tm.length e.tm e.clock h.tv
 unfold Eng.wakeAll
 refine foldl_ok (fun e a h=>settle_ok h) _ _ {h with l4:= ?_,tm:= ?_,tv:=i2}
 ·exact i1.trans h.l4
 ·intro k hk;exact h.tm k (i3 k hk)
theorem halt_ok {e:Eng} (h:e.Ok):e.halt.Ok:=by
 unfold Eng.halt;split
 ·exact{h with}
 ·exact h
theorem start_ok {e:Eng} (h:e.Ok) (r:RoundM):(e.start r).Ok:=by
 have h0:=h.c0
 have h1:=h.c1
 have hn:=nev
 have hc:e.clock≤min (tadd e.clock r.ticks) (never-1):=by unfold tadd own;split <;>omega
 refine{h with dO:= ?_,c0:= ?_,c1:= ?_}
 ·intro k x hk
  obtain⟨d1,d2,d4⟩:=h.dO k x hk
  exact⟨d1,d2,by unfold Eng.start;simp only;omega⟩
 ·unfold Eng.start;simp only;omega
 ·unfold Eng.start;simp only;omega
theorem told_ok {e:Eng} (h:e.Ok) (r:RoundM):(e.told r).Ok:=
 foldl_ok (fun e a h=>report_ok h a) _ _ (drain_ok (foldl_ok (fun e a h=>offer_ok h a) _ _ (foldl_ok (fun e a h=>open_ok h a) _ _ (start_ok h r))) r)
theorem round_ok {e:Eng} (h:e.Ok) (r:RoundM):(e.round r).Ok:=halt_ok (visit_ok _ (wakeAll_ok (told_ok h r)))
theorem new_eng_ok {s:Setup} {scripts:List PrM} (hs:good s=true) (hf:∀p∈scripts,p.Fit) (hl:scripts.length≤64):(Eng.new s scripts).Ok:=by
 have hg:=good_facts hs
 have hn:=nev
 have hlv:(min (max s.live 1) 1024).toNat=s.live.toNat:=by omega
 have none:∀k,(Eng.new s scripts).seat k=none:=by
  intro k
  unfold Eng.new Eng.seat
  simp only
  rw [List.getD_eq_getElem?_getD,List.getElem?_replicate]
  split <;>rfl
 refine{sg:=hs,l1:=by simp [Eng.new],l3:=by simp [Eng.new,Turns.new,hlv],l4:=by simp [Eng.new],w:=by simp [Eng.new,Slots.new,hlv,seatId],nd:= ?_,nx:= ?_,n0:=Int.le_refl _,dO:= ?_,tq:=by simp [Eng.new,Turns.new],tn:=by simp [Eng.new,Turns.new],tw:=by simp [Eng.new,Turns.new],tm:= ?_,tv:= ?_,c0:=Int.le_refl _,c1:=by simp only [Eng.new];omega,sc:=hf,sl:=hl}
 ·intro i j x y hx;rw [none]at hx;cases hx
 ·intro k x hx;rw [none]at hx;cases hx
 ·intro k x hx;rw [none]at hx;cases hx
 ·intro k hk
  exfalso;apply hk
  simp only [Eng.new]
  rw [List.getD_eq_getElem?_getD,List.getElem?_replicate]
  split <;>rfl
 ·intro t ht
  simp only [Eng.new]at ht
  rw [List.eq_of_mem_replicate ht];exact Int.le_refl _
theorem insertI_perm (x:Int):∀l:List Int,(insertI x l).Perm (x::l)
 | []=>List.Perm.refl _
 | y::l=>by
  rw [insertI];split
  ·exact List.Perm.refl _
  ·exact((insertI_perm x l).cons y).trans (List.Perm.swap x y l)
theorem sortI_perm:∀l:List Int,(sortI l).Perm l
 | []=>List.Perm.refl _
 | x::l=>(insertI_perm x _).trans ((sortI_perm l).cons x)
theorem live_mem {s:Slots} {id:Int}:id∈s.live↔id∈s.who∧id≠-1:=by
 unfold Slots.live
 rw [(sortI_perm _).mem_iff,List.mem_filter]
 simp
def Eng.sits (e:Eng) (id:Int):Prop:=∃k x,e.seat k=some x∧x.id=id
theorem Eng.Ok.sits_iff {e:Eng} (h:e.Ok) {id:Int}:id∈e.slots.live↔e.sits id:=by
 rw [live_mem,←h.w]
 constructor
 ·rintro⟨h1,h2⟩
  obtain⟨o,ho,he⟩:=List.mem_map.1 h1
  cases o with
  | none=>simp [seatId]at he;omega
  | some x=>
   obtain⟨k,hk,hx⟩:=List.mem_iff_getElem.1 ho
   exact⟨k,x,seat_get.2 (by rw [List.getElem?_eq_getElem hk,hx]),he⟩
 ·rintro⟨k,x,hk,rfl⟩
  have:=seat_get.1 hk
  refine⟨List.mem_map.2 ⟨some x,List.mem_of_getElem? this,rfl⟩,?_⟩
  have:=(h.nx k x hk).1;omega
theorem Eng.Ok.live_nodup {e:Eng} (h:e.Ok):e.slots.live.Nodup:=by
 unfold Slots.live
 rw [(sortI_perm _).nodup_iff]
 unfold List.Nodup
 rw [List.pairwise_filter,←h.w,List.pairwise_iff_getElem]
 intro i j hi hj hij h1 h2 he
 simp only [List.length_map]at hi hj
 simp only [List.getElem_map]at h1 h2 he
 cases h3:e.seats[i]with
 | none=>rw [h3]at h1;simp [seatId]at h1
 | some x=>
  cases h4:e.seats[j]with
  | none=>rw [h4]at h2;simp [seatId]at h2
  | some y=>
   rw [h3,h4]at he
   have:=h.nd i j x y (seat_get.2 (by rw [List.getElem?_eq_getElem hi,h3])) (seat_get.2 (by rw [List.getElem?_eq_getElem hj,h4])) he
   omega
theorem Eng.Ok.live_le {e:Eng} (h:e.Ok):e.slots.live.length≤1024:=by
 have h9:=good_facts h.sg
 have h2:=h.l2
 have:e.slots.live.length≤e.slots.who.length:=by
  unfold Slots.live
  rw [(sortI_perm _).length_eq]
  exact List.length_filter_le _ _
 omega
theorem cut1_keeps {e:Eng} (h:e.Ok) (t:Int) (now:Bool) {id id':Int} (hne:id'≠id) (hs:e.sits id'):(e.cut1 t now id).sits id':=by
 obtain⟨k',x',hk',hid'⟩:=hs
 unfold Eng.cut1
 cases hsl:e.slots.slot id with
 | none=>exact⟨k',x',hk',hid'⟩
 | some k=>
  dsimp only
  obtain⟨x,hk,hid⟩:=h.of_slot hsl
  rw [hk]
  dsimp only
  have hkk:k'≠k:=by
   intro e1;subst e1
   rw [hk]at hk';cases hk';exact hne (hid'.symm.trans hid)
  obtain⟨d1,d2,d4⟩:=h.dO _ _ hk
  have hc:=cut_like x.d t
  have h1:(e.setSeat k (some {x with d:=x.d.cut t})).Ok:=setSeat_ok (y:={x with d:=x.d.cut t}) h hk rfl ⟨cut_ok d1 t,hc.1.trans d2,by simp only;rw [hc.2.2];exact d4⟩
  have hss:=setSeat_seat hk {x with d:=x.d.cut t}
  have hk1:(e.setSeat k (some {x with d:=x.d.cut t})).seat k=some {x with d:=x.d.cut t}:=(hss k).trans (if_pos rfl)
  have hk2:(e.setSeat k (some {x with d:=x.d.cut t})).seat k'=some x':=((hss k').trans (if_neg hkk)).trans hk'
  have hst:=(step_seat h1 hk1).2 k' hkk
  split
  ·exact⟨k',x',by rw [settle_seat];exact hk2,hid'⟩
  ·split
   ·exact⟨k',x',by rw [settle_seat,hst];exact hk2,hid'⟩
   ·exact⟨k',x',by rw [hst];exact hk2,hid'⟩
end Go.Proofs.YtbjlfobjngogkaaGreatDoor
namespace Go.Proofs.YtbjlfobjngogkaaGreatDoor
open Go
set_option synthInstance.maxSize 100000
set_option synthInstance.maxHeartbeats 1000000
set_option maxRecDepth 100000
structure TuX where
 bf:Nat
 bp:Nat
 bh:Nat
 f:Ff
 has:List Int
 quantum:Int
 who:Int
 done:Int
 hl:has.length=f.inn.length
 hr:∀i,i<has.length→0≤has.getD i 0∧has.getD i 0≤2000000000
 hq:1≤quantum∧quantum≤1000000
 hw: -1≤who∧who<f.inn.length
 hn:who≠-1→who.toNat∉f.q
def TuX.m (x:TuX):Turns:=⟨x.f.inn.length,x.f.q,x.has,x.quantum,x.who⟩
abbrev tuP (b:Nat) (x:TuX):Chunk:=bk b 264 [.pointer (some (ad x.bf 0)),.pointer (some (ad x.bp 0)),.int .i64 x.who,.int .i64 x.done]
abbrev puP (x:TuX):Chunk:=bk x.bp 352 [.slice (some (ad x.bh 0)) x.f.inn.length x.f.inn.length,.int .i64 x.quantum]
def turnsC (b:Nat) (x:TuX):Chunk:=tuP b x++(fifoC x.bf x.f++(puP x++bk x.bh 3 (List.map (Value.int .i64) x.has)))
section
variable {cs:St} {b:Nat} {x:TuX} {put:Chunk→St} {K:Value→SP}
instance {a:Addr} {i:Int}:Go1 (fn 332 [.pointer (some a),.int .i64 i] K cs) (s332 a i K cs):=⟨f332⟩
instance {a:Addr} {i:Int}:Go1 (fn 260 [.pointer (some a),.int .i64 i] K cs) (s260 a i K cs):=⟨f260⟩
instance {a:Addr} {i:Int}:Go1 (fn 245 [.pointer (some a),.int .i64 i] K cs) (s245 a i K cs):=⟨f245⟩
instance {a:Addr} {i j:Int}:Go1 (fn 247 [.pointer (some a),.int .i64 i,.int .i64 j] K cs) (s247 a i j K cs):=⟨f247⟩
instance {a:Addr}:Go1 (fn 243 [.pointer (some a)] K cs) (s243 a K cs):=⟨f243⟩
instance {i j:Int}:Go1 (fn 139 [.int .i64 i,.int .i64 j] K cs) (s139 i j K cs):=⟨f139⟩
theorem tu_same (o:Ob turnsC cs b x put) {v:Value} {F c:St} (h:K v cs) [d:Drp c (tuP b x::fifoC x.bf x.f::puP x::bk x.bh 3 (List.map (Value.int .i64) x.has)::F)]:
  ∃q1 q2 q3 q4,Imp c (q1::q2::q3::q4::F)∧K v (put (q1++(q2++(q3++q4)))):=by
 rw [←o.same]at h
 exact⟨_,_,_,_,drp,h⟩
instance c80 {most quantum:Int}:Go1 (fn 80 [.int .i64 most,.int .i64 quantum] K cs) (∀b x,TuX.m x=Turns.new most quantum→K (.pointer (some (ad b 0))) (turnsC b x::cs)):=⟨fun h=>up0 (f80 (by
 unfold s80
 refine go ?_
 intro bf f hf hl
 have e:(if 1024<if 1>most then 1 else most then 1024 else if 1>most then 1 else most)=min (max most 1) 1024:=by omega
 have e2:(if 1000000<if 1>quantum then 1 else quantum then 1000000 else if 1>quantum then 1 else quantum)=min (max quantum 1) 1000000:=by omega
 rw [e,e2]
 refine⟨by omega,fun bh bp b=> ?_⟩
 have e3:(min (max most 1) 1024).toNat=f.inn.length:=by omega
 have hh:=h b ⟨bf,bp,bh,f,List.replicate f.inn.length 0,min (max quantum 1) 1000000,-1,0,by simp,fun i hi=>by simp [List.getD_eq_getElem?_getD,List.getElem?_replicate];split <;>simp,by omega,by omega,fun c=>absurd rfl c⟩ (by simp [TuX.m,Turns.new,hf,e3])
 simp only [turnsC]at hh
 rw [e3]
 exact fin hh))⟩
instance c234 [o:Ob turnsC cs b x put] {i:Int}:Go1 (fn 234 [.pointer (some (ad b 0)),.int .i64 i] K cs)
  ((0≤i∧i<x.f.inn.length)∧∀x' r,TuX.m x'=x.m.wake i.toNat→K (.bool r) (put (turnsC b x'))):=⟨fun⟨hi,h⟩=>by
 refine o.fn4 (tuP b x) (fifoC x.bf x.f) (puP x) (bk x.bh 3 (List.map (Value.int .i64) x.has)) rfl fun F=>f234 ?_
 unfold s234
 refine goj ?_
 simp only [bne_iff_ne,ne_eq,bne_eq_false_iff_eq,beq_iff_eq,beq_eq_false_iff_ne]
 have hw:=x.hw
 have ei:((i.toNat:Nat):Int)=i:=by omega
 have k1:x.who=i→∀r,K (.bool r) cs:=fun c r=>by
  have:=h x r (by simp [Turns.wake,TuX.m,ei,c]);rwa [o.same]at this
 have k2:x.who≠i→i.toNat∈x.f.q→∀r,K (.bool r) cs:=fun c hm r=>by
  have:=h x r (by simp [Turns.wake,TuX.m,ei,c,qpush,hm]);rwa [o.same]at this
 have k3:x.who≠i→i.toNat∉x.f.q→∀f':Ff,f'.q=x.f.q++[i.toNat]→f'.inn.length=x.f.inn.length→∀r,∃y:TuX,y.bf=x.bf∧y.bp=x.bp∧y.bh=x.bh∧y.f=f'∧y.has=x.has∧y.quantum=x.quantum∧y.who=x.who∧y.done=x.done∧K (.bool r) (put (turnsC b y)):=fun c hm f' hf hl r=>by
  refine⟨⟨x.bf,x.bp,x.bh,f',x.has,x.quantum,x.who,x.done,by rw [hl];exact x.hl,x.hr,x.hq,by rw [hl];exact hw,fun hh=> ?_⟩,rfl,rfl,rfl,rfl,rfl,rfl,rfl,rfl,h _ r ?_⟩
  ·rw [hf]
   simp only [List.mem_append,List.mem_singleton,not_or]
   exact⟨x.hn hh,fun e=>c (by omega)⟩
  ·simp [Turns.wake,TuX.m,ei,c,qpush,hm,hf,hl]
 have k4:∀f':Ff,f'.inn.length=x.f.inn.length→x.who≠i→i.toNat∉x.f.q→f'.q=x.f.q++[i.toNat]→∀r,∃q1 q2 q3 q4,Imp (tuP b x::fifoC x.bf f'::puP x::bk x.bh 3 (List.map (Value.int .i64) x.has)::F) (q1::q2::q3::q4::F)∧K (.bool r) (put (q1++(q2++(q3++q4)))):=fun f' hl c hm hf r=>by
  obtain⟨y,e1,e2,e3,e4,e5,e6,e7,e8,hk⟩:=k3 c hm f' hf hl r
  simp only [turnsC,tuP,puP,e1,e2,e3,e4,e5,e6,e7,e8,hl]at hk
  exact⟨_,_,_,_,drp,hk⟩
 exact⟨fun c=>⟨fun c1=>tu_same o (k1 c1 _),fun c1=>⟨hi,fun hm=>tu_same o (k2 c1 hm _),fun hm f' hf hl=>k4 f' hl c1 hm hf _⟩⟩,fun c=>⟨hi,fun hm=>tu_same o (k2 (by omega) hm _),fun hm f' hf hl=>k4 f' hl (by omega) hm hf _⟩⟩⟩
instance c160 [o:Ob turnsC cs b x put]:Go1 (fn 160 [.pointer (some (ad b 0))] K cs)
  ((x.m.begin.2=none→K (.tuple ⟨[.int .i64 0,.bool false]⟩) cs)∧(∀i:Nat,x.m.begin.2=some i→∀x',TuX.m x'=x.m.begin.1→K (.tuple ⟨[.int .i64 i,.bool true]⟩) (put (turnsC b x')))):=⟨fun⟨h0,h1⟩=>by
 refine o.fn4 (tuP b x) (fifoC x.bf x.f) (puP x) (bk x.bh 3 (List.map (Value.int .i64) x.has)) rfl fun F=>f160 ?_
 unfold s160
 refine goj ?_
 have hw:=x.hw
 simp only [bne_iff_ne,ne_eq,bne_eq_false_iff_eq,beq_iff_eq,beq_eq_false_iff_ne,Bool.not_true,Bool.not_false,Bool.true_eq_false,Bool.false_eq_true,true_implies,false_implies,and_true,true_and,decide_eq_true_eq,decide_eq_false_iff_not]
 refine⟨fun c=>tu_same o (h0 (by simp [Turns.begin,TuX.m,c])),fun c=>⟨fun hq=>tu_same o (h0 (by simp [Turns.begin,TuX.m,c,hq])),fun i r hq f' hf hl=> ?_⟩⟩
 have him:i<x.f.inn.length:=x.f.lt i (by rw [hq];simp)
 have hr:=x.hr i (by rw [x.hl];exact him)
 have hqq:=x.hq
 have hnd:=x.f.nd
 rw [hq]at hnd
 have e1:(if 2000000000<w64 (x.has.getD i 0+x.quantum)then 2000000000 else w64 (x.has.getD i 0+x.quantum))=min (x.has.getD i 0+x.quantum) 2000000000:=by rw [w64_id (by omega)];omega
 have hh:=h1 i (by simp [Turns.begin,TuX.m,c,hq]) ⟨x.bf,x.bp,x.bh,f',x.has.set i (min (x.has.getD i 0+x.quantum) 2000000000),x.quantum,i,w64 (x.done+1),by rw [hl,List.length_set];exact x.hl,
  fun j hj=>by
   rw [getD_set' _ _ _ _ _ (by rw [x.hl];exact him)]
   split
   ·omega
   ·exact x.hr j (by simpa using hj),x.hq,by rw [hl];omega,fun _=>by rw [hf,Int.toNat_natCast];exact(List.nodup_cons.1 hnd).1⟩ (by simp [Turns.begin,TuX.m,c,hq,hf,hl])
 simp only [turnsC,tuP,puP,hl]at hh
 simp only [Int.toNat_natCast,e1,List.length_set,x.hl,Bool.not_eq_true',Bool.not_eq_false',decide_eq_true_eq,decide_eq_false_iff_not]
 exact⟨fun _=>⟨fun c2=>by omega,fun _=>⟨⟨by omega,by omega⟩,him,⟨by omega,by omega⟩,him,⟨by omega,by omega⟩,him,_,_,_,_,drp,hh⟩⟩,fun c2=>by omega⟩⟩
instance c162 [o:Ob turnsC cs b x put] {p:Int}:Go1 (fn 162 [.pointer (some (ad b 0)),.int .i64 p] K cs)
  ((-9223372036854775808≤p∧p≤9223372036854775807)∧∀x',TuX.m x'=(x.m.pay p).1→K (.bool (x.m.pay p).2) (put (turnsC b x'))):=⟨fun⟨hp,h⟩=>by
 refine o.fn4 (tuP b x) (fifoC x.bf x.f) (puP x) (bk x.bh 3 (List.map (Value.int .i64) x.has)) rfl fun F=>f162 ?_
 unfold s162
 refine goj ?_
 have hw:=x.hw
 have ep:(if 0>p then 0 else p)=max p 0:=by omega
 simp only [ep,bne_iff_ne,ne_eq,bne_eq_false_iff_eq,Bool.not_eq_true',Bool.not_eq_false',decide_eq_true_eq,decide_eq_false_iff_not,x.hl]
 refine⟨fun c=>⟨fun _=>⟨fun c2=>by omega,fun _=>⟨⟨by omega,by omega⟩,by omega,fun c3=> ?_,fun c3=>⟨⟨by omega,by omega⟩,by omega,⟨by omega,by omega⟩,by omega,?_⟩⟩⟩,fun c2=>by omega⟩,fun c=> ?_⟩
 ·have p1:x.m.pay p=(x.m,false):=by unfold Turns.pay;rw [if_neg (show¬x.m.who= -1 from c),if_pos (show x.m.has.getD x.m.who.toNat 0<max p 0 from c3)]
  rw [p1]at h
  have:=h x rfl
  rw [o.same]at this
  exact tu_same o this
 ·have hlt:x.who.toNat<x.has.length:=by rw [x.hl];omega
  have hr:=x.hr x.who.toNat hlt
  have hnn:=x.hn c
  have e1:w64 (x.has.getD x.who.toNat 0-max p 0)=x.has.getD x.who.toNat 0-max p 0:=w64_id (by omega)
  have p1:x.m.pay p=({x.m with has:=x.has.set x.who.toNat (x.has.getD x.who.toNat 0-max p 0)},true):=by
   unfold Turns.pay;rw [if_neg (show¬x.m.who= -1 from c),if_neg (show¬x.m.has.getD x.m.who.toNat 0<max p 0 from c3)];rfl
  rw [p1]at h
  have hh:=h ⟨x.bf,x.bp,x.bh,x.f,x.has.set x.who.toNat (x.has.getD x.who.toNat 0-max p 0),x.quantum,x.who,x.done,by rw [List.length_set];exact x.hl,
   fun j hj=>by
    rw [getD_set' _ _ _ _ _ hlt]
    split
    ·omega
    ·exact x.hr j (by simpa using hj),x.hq,x.hw,x.hn⟩ rfl
  simp only [turnsC,tuP,puP]at hh
  rw [e1]
  exact⟨_,_,_,_,drp,hh⟩
 ·have p1:x.m.pay p=(x.m,false):=by unfold Turns.pay;rw [if_pos (show x.m.who= -1 from c)]
  rw [p1]at h
  have:=h x rfl
  rw [o.same]at this
  exact tu_same o this⟩
theorem tu_fin_end (x:TuX) (f':Ff) (has':List Int) (h1:f'.inn.length=x.f.inn.length) (h2:has'.length=x.has.length) (h3:∀i,i<has'.length→0≤has'.getD i 0∧has'.getD i 0≤2000000000):
  ∃y:TuX,y.m={x.m with q:=f'.q,has:=has',who:=-1}∧∀b,turnsC b y=bk b 264 [.pointer (some (ad x.bf 0)),.pointer (some (ad x.bp 0)),.int .i64 (-1),.int .i64 x.done]++(fifoC x.bf f'++(puP x++bk x.bh 3 (List.map (Value.int .i64) has'))):=
 ⟨⟨x.bf,x.bp,x.bh,f',has',x.quantum,-1,x.done,by rw [h2,h1];exact x.hl,h3,x.hq,by omega,fun c=>absurd rfl c⟩,by simp [TuX.m,h1],fun b=>by simp [turnsC,tuP,puP,h1]⟩
instance c165 [o:Ob turnsC cs b x put] {g:Bool}:Go1 (fn 165 [.pointer (some (ad b 0)),.bool g] K cs)
  (∀x' r,TuX.m x'=x.m.fin g→K (.bool r) (put (turnsC b x'))):=⟨fun h=>by
 refine o.fn4 (tuP b x) (fifoC x.bf x.f) (puP x) (bk x.bh 3 (List.map (Value.int .i64) x.has)) rfl fun F=>f165 ?_
 unfold s165
 refine goj ?_
 have hw:=x.hw
 simp only [bne_iff_ne,ne_eq,bne_eq_false_iff_eq,Bool.not_eq_true',Bool.not_eq_false',decide_eq_true_eq,decide_eq_false_iff_not,x.hl]
 refine⟨fun c=> ?_,fun c=>⟨fun cg=>⟨⟨by omega,by omega⟩,fun hm=>absurd hm (x.hn c),fun hm f' hf hl=> ?_⟩,fun cg=>⟨fun _=>⟨fun c2=>by omega,fun _=>⟨⟨by omega,by omega⟩,by omega,⟨by omega,by omega⟩,by omega,?_⟩⟩,fun c2=>by omega⟩⟩⟩
 ·have:=h x false (by simp [Turns.fin,TuX.m,c])
  rw [o.same]at this
  exact tu_same o this
 ·obtain⟨y,e1,e2⟩:=tu_fin_end x f' x.has hl rfl x.hr
  have hh:=h y true (by rw [e1];simp [Turns.fin,TuX.m,c,cg,qpush,hm,hf])
  rw [e2]at hh
  exact⟨_,_,_,_,drp,hh⟩
 ·have hlt:x.who.toNat<x.has.length:=by rw [x.hl];omega
  obtain⟨y,e1,e2⟩:=tu_fin_end x x.f (x.has.set x.who.toNat 0) rfl (by simp) (fun j hj=>by
   rw [getD_set' _ _ _ _ _ hlt]
   split
   ·omega
   ·exact x.hr j (by simpa using hj))
  have hh:=h y true (by rw [e1];simp [Turns.fin,TuX.m,c,cg])
  rw [e2]at hh
  exact⟨_,_,_,_,drp,hh⟩⟩
instance c257 [o:Ob turnsC cs b x put] {i:Int}:Go1 (fn 257 [.pointer (some (ad b 0)),.int .i64 i] K cs)
  ((0≤i∧i<x.f.inn.length)∧∀x' r,TuX.m x'=x.m.leave i.toNat→K (.bool r) (put (turnsC b x'))):=⟨fun⟨hi,h⟩=>by
 have rd:RdB cs b 264 [.pointer (some (ad x.bf 0)),.pointer (some (ad x.bp 0)),.int .i64 x.who,.int .i64 x.done]:=⟨by obtain⟨i,h,_⟩:=o.h;exact Rd.in h (by simp [turnsC,tuP,bk])⟩
 have hw:=x.hw
 have ei:((i.toNat:Nat):Int)=i:=by omega
 by_cases c:x.who=i
 ·refine f257 ?_
  unfold s257
  refine goj ?_
  simp only [bne_iff_ne,ne_eq,bne_eq_false_iff_eq,beq_iff_eq,beq_eq_false_iff_ne]
  refine⟨fun c1=>⟨fun _ x' r hx=>h x' r (by rw [hx];simp [Turns.leave,TuX.m,ei,c]),fun c2=>absurd c c2⟩,fun c1=>by omega⟩
 ·refine o.fn4 (tuP b x) (fifoC x.bf x.f) (puP x) (bk x.bh 3 (List.map (Value.int .i64) x.has)) rfl fun F=>f257 ?_
  unfold s257
  refine goj ?_
  simp only [bne_iff_ne,ne_eq,bne_eq_false_iff_eq,beq_iff_eq,beq_eq_false_iff_ne,Bool.not_false,Bool.not_true,Bool.true_eq_false,Bool.false_eq_true,true_implies,false_implies,and_true,true_and,Bool.not_eq_true',Bool.not_eq_false',decide_eq_true_eq,decide_eq_false_iff_not,x.hl]
  have c':¬x.m.who=i.toNat:=fun e=>c (by rw [←ei];exact e)
  have k1:i.toNat∉x.f.q→K (.bool false) cs:=fun hm=>by
   have:=h x false (by unfold Turns.leave;rw [if_neg c',if_neg (show¬i.toNat∈x.m.q from hm)])
   rwa [o.same]at this
  have k2:i.toNat∈x.f.q→∀f':Ff,f'.q=x.f.q.erase i.toNat→f'.inn.length=x.f.inn.length→∃q1 q2 q3 q4,Imp (tuP b x::fifoC x.bf f'::puP x::bk x.bh 3 (List.map (Value.int .i64) (x.has.set i.toNat 0))::F) (q1::q2::q3::q4::F)∧K (.bool true) (put (q1++(q2++(q3++q4)))):=fun hm f' hf hl=>by
   have hlt:i.toNat<x.has.length:=by rw [x.hl];omega
   have hh:=h ⟨x.bf,x.bp,x.bh,f',x.has.set i.toNat 0,x.quantum,x.who,x.done,by rw [hl,List.length_set];exact x.hl,
    fun j hj=>by
     rw [getD_set' _ _ _ _ _ hlt]
     split
     ·omega
     ·exact x.hr j (by simpa using hj),x.hq,by rw [hl];exact x.hw,fun hw=>by rw [hf];exact fun hx=>x.hn hw (List.mem_of_mem_erase hx)⟩ true (by
     unfold Turns.leave;rw [if_neg c',if_pos (show i.toNat∈x.m.q from hm)];simp [TuX.m,hf,hl])
   simp only [turnsC,tuP,puP,hl]at hh
   exact⟨_,_,_,_,drp,hh⟩
  have k3:(0≤i∧i<x.f.inn.length)∧(i.toNat∉x.f.q→∃q1 q2 q3 q4,Imp (tuP b x::fifoC x.bf x.f::puP x::bk x.bh 3 (List.map (Value.int .i64) x.has)::F) (q1::q2::q3::q4::F)∧K (.bool false) (put (q1++(q2++(q3++q4))))):=⟨hi,fun hm=>tu_same o (k1 hm)⟩
  exact⟨fun _=>⟨fun c1=>absurd c1 c,fun _=>⟨hi,k3.2,fun hm f' hf hl=>⟨fun _=>⟨fun c2=>by omega,fun _=>⟨hi,by omega,hi,by omega,k2 hm f' hf hl⟩⟩,fun c2=>by omega⟩⟩⟩,
   fun _=>⟨hi,k3.2,fun hm f' hf hl=>⟨fun _=>⟨fun c2=>by omega,fun _=>⟨hi,by omega,hi,by omega,k2 hm f' hf hl⟩⟩,fun c2=>by omega⟩⟩⟩⟩
end
def slotI (o:Option Nat):Int:=match o with | some s=>s | none=>0
structure SlX where
 bw:Nat
 bm:Nat
 who:List Int
 M:Mp mvI
 next:Int
 h1:who.length≤1024
 nd:(M.l.map Prod.fst).Nodup
 at1:∀s,s<who.length→who.getD s 0≠-1→iget M.l (who.getD s 0)=some (s:Int)
 at2:∀id s,iget M.l id=some s→0≤s∧s<who.length∧who.getD s.toNat 0=id
 cnt:M.l.length+who.count (-1)=who.length
 hn:0≤next∧next≤4096
 hid:∀id s,iget M.l id=some s→0≤id∧id<next
abbrev SlX.m (x:SlX):Slots:=⟨x.who,x.next⟩
abbrev slP (b:Nat) (x:SlX):Chunk:=bk b 258 [.slice (some (ad x.bw 0)) x.who.length x.who.length,.map (some x.bm),.int .i64 x.next]
def slotsC (b:Nat) (x:SlX):Chunk:=slP b x++(bk x.bw 3 (List.map (Value.int .i64) x.who)++mpC mvI x.bm x.M)
theorem SlX.slot_eq (x:SlX) (id:Int):iget x.M.l id=(x.m.slot id).map fun s=>(s:Int):=by
 unfold Slots.slot
 by_cases h:0≤id∧id∈x.who
 ·rw [if_pos h]
  have hk:=List.idxOf_lt_length_iff.2 h.2
  have e:x.who.getD (x.who.idxOf id) 0=id:=by rw [List.getD_eq_getElem?_getD,List.getElem?_eq_getElem hk];exact List.getElem_idxOf hk
  have:=x.at1 _ hk (by omega)
  rw [e]at this
  exact this
 ·rw [if_neg h]
  cases hg:iget x.M.l id with
  | none=>rfl
  | some s=>
   obtain⟨a1,a2,a3⟩:=x.at2 id s hg
   have:=x.hid id s hg
   refine absurd ⟨this.1,?_⟩ h
   have hlt:s.toNat<x.who.length:=by omega
   rw [List.getD_eq_getElem?_getD,List.getElem?_eq_getElem hlt]at a3
   rw [←a3]
   exact List.getElem_mem _
section
variable {cs:St} {b:Nat} {x:SlX} {put:Chunk→St} {K:Value→SP}
instance slRd [o:Ob slotsC cs b x put]:RdB cs b 258 [.slice (some (ad x.bw 0)) x.who.length x.who.length,.map (some x.bm),.int .i64 x.next]:=⟨by
 obtain⟨i,h,_⟩:=o.h;exact Rd.in h (by simp [slotsC,slP,bk])⟩
theorem sl_open {F c:St} {y:SlX} {v:Value} (b:Nat) {put:Chunk→St} {K:Value→SP} (h:K v (put (slotsC b y))) [d:Drp c (slP b y::bk y.bw 3 (List.map (Value.int .i64) y.who)::mpC mvI y.bm y.M::F)]:
  ∃q1 q2 q3,Imp c (q1::q2::q3::F)∧K v (put (q1++(q2++q3))):=⟨_,_,_,drp,h⟩
instance c225 [o:Ob slotsC cs b x put]:Go1 (fn 225 [.pointer (some (ad b 0))] K cs) (K (.int .i64 x.next) cs):=⟨fun h=>f225 (by unfold s225;exact go h)⟩
instance c235 [o:Ob slotsC cs b x put] {id:Int}:Go1 (fn 235 [.pointer (some (ad b 0)),.int .i64 id] K cs) (K (.tuple ⟨[.int .i64 (slotI (x.m.slot id)),.bool (x.m.slot id).isSome]⟩) cs):=⟨fun h=>by
 refine o.fn3 (slP b x) (bk x.bw 3 (List.map (Value.int .i64) x.who)) (mpC mvI x.bm x.M) rfl fun F=>f235 ?_
 rw [←o.same]at h
 unfold s235
 refine go ?_
 rw [x.slot_eq]
 have e:((x.m.slot id).map fun s=>(s:Int)).getD 0=slotI (x.m.slot id):=by cases x.m.slot id <;>rfl
 have e2:((x.m.slot id).map fun s=>(s:Int)).isSome=(x.m.slot id).isSome:=by cases x.m.slot id <;>rfl
 rw [e,e2]
 exact sl_open b (y:=x) h⟩
instance c226 [o:Ob slotsC cs b x put]:Go1 (fn 226 [.pointer (some (ad b 0))] K cs) (K (.int .i64 (x.m.free:Nat)) cs):=⟨fun h=>by
 refine o.fn3 (slP b x) (bk x.bw 3 (List.map (Value.int .i64) x.who)) (mpC mvI x.bm x.M) rfl fun F=>f226 ?_
 rw [←o.same]at h
 unfold s226
 refine go ?_
 have:=x.cnt;have:=x.h1
 have e:w64 ((x.who.length:Int)-x.M.l.length)=(x.m.free:Nat):=by rw [w64_id (by omega)];show _=((x.who.count (-1):Nat):Int);omega
 rw [e]
 exact sl_open b (y:=x) h⟩
theorem SlX.skipX (x:SlX) (h:x.next<4096):∃y:SlX,y.bw=x.bw∧y.bm=x.bm∧y.who=x.who∧y.next=x.next+1∧∀b,slotsC b y=bk b 258 [.slice (some (ad x.bw 0)) x.who.length x.who.length,.map (some x.bm),.int .i64 (x.next+1)]++(bk x.bw 3 (List.map (Value.int .i64) x.who)++mpC mvI x.bm x.M):=
 ⟨⟨x.bw,x.bm,x.who,x.M,x.next+1,x.h1,x.nd,x.at1,x.at2,x.cnt,by have:=x.hn;omega,fun id s hs=>by have:=x.hid id s hs;omega⟩,rfl,rfl,rfl,rfl,fun b=>rfl⟩
instance c147 [o:Ob slotsC cs b x put]:Go1 (fn 147 [.pointer (some (ad b 0))] K cs) (∀x',SlX.m x'=x.m.skip→x'.who.length=x.who.length→K (.int .i64 x.m.skipped) (put (slotsC b x'))):=⟨fun h=>by
 refine o.fn3 (slP b x) (bk x.bw 3 (List.map (Value.int .i64) x.who)) (mpC mvI x.bm x.M) rfl fun F=>f147 ?_
 have hn:=x.hn
 unfold s147
 refine goj ?_
 simp only [ge_iff_le,decide_eq_true_eq,decide_eq_false_iff_not]
 refine⟨fun c=> ?_,fun c=> ?_⟩
 ·have:=h x (by simp [Slots.skip,c]) rfl
  rw [show x.m.skipped= -1 by simp [Slots.skipped,c]]at this
  exact sl_open b (y:=x) this
 ·obtain⟨y,e1,e2,e3,e4,e5⟩:=x.skipX (by omega)
  have:=h y (by simp [Slots.skip,c,SlX.m,e3,e4]) (by rw [e3])
  rw [show x.m.skipped=x.next by simp [Slots.skipped,c],e5]at this
  have w1:w64 (x.next+1)=x.next+1:=w64_id (by omega)
  have w2:w64 (x.next+1-1)=x.next:=by rw [w64_id (by omega)];omega
  rw [w1,w2]
  exact⟨_,_,_,drp,this⟩⟩
instance c227 {b n m:Nat} {T:TypeId} {l:List Int} {a:Int} [r:RdB cs b T (List.map (Value.int .i64) l)]:Go1 (fn 227 [.slice (some (ad b 0)) n m,.int .i64 a] K cs) ((n=l.length∧n≤4611686018427387904)∧K (.int .i64 (if a∈l then(l.idxOf a:Int)else -1)) cs):=⟨fun⟨⟨rfl,hn⟩,h⟩=>f227 (by
 unfold s227
 refine lp (fun i:Nat=>[.int .i64 i]) (fun _=>cs) (fun i=>i≤l.length∧∀j,j<i→l.getD j 0≠a) (fun i=>l.length-i) 0 rfl (Imp.refl _) ⟨Nat.zero_le _,fun j hj=>absurd hj (Nat.not_lt_zero _)⟩ ?_
 rintro i ⟨hi,hb⟩
 refine go ?_
 simp only [Int.toNat_natCast,decide_eq_true_eq,decide_eq_false_iff_not,beq_iff_eq,beq_eq_false_iff_ne]
 refine⟨fun c=>⟨⟨by omega,by omega⟩,by omega,fun c1=>keq h ?_,fun c1=>⟨i+1,by rw [w64_id (by omega)];simp,Imp.refl _,⟨by omega,fun j hj=> ?_⟩,by omega⟩⟩,fun c=>keq h ?_⟩
 ·have hlt:i<l.length:=by omega
  have hm:a∈l:=by rw [c1,List.getD_eq_getElem?_getD,List.getElem?_eq_getElem hlt];exact List.getElem_mem _
  have hk:=List.idxOf_lt_length_iff.2 hm
  have e1:l.idxOf a=i:=by
   rcases Nat.lt_trichotomy (l.idxOf a) i with h1 | h1 | h1
   ·exact absurd (by rw [List.getD_eq_getElem?_getD,List.getElem?_eq_getElem hk];exact List.getElem_idxOf hk) (hb _ h1)
   ·exact h1
   ·have:=List.not_of_lt_findIdx (p:=(· == a)) (xs:=l) (i:=i) h1
    rw [List.getD_eq_getElem?_getD,List.getElem?_eq_getElem hlt]at c1
    simp [c1]at this
  rw [if_pos hm,e1]
 ·by_cases e:j=i
  ·subst e;exact fun e=>c1 e.symm
  ·exact hb j (by omega)
 ·have:a∉l:=fun hm=>by
   obtain⟨j,hj,e⟩:=List.getElem_of_mem hm
   exact hb j (by omega) (by rw [List.getD_eq_getElem?_getD,List.getElem?_eq_getElem hj];exact e)
  rw [if_neg this])⟩
theorem count_out:∀(l:List Int) (i:Nat) (v a:Int),i<l.length→l.getD i 0=a→v≠a→(l.set i v).count a+1=l.count a
 | [],_,_,_,h,_,_=>by simp at h
 | y::l,0,v,a,_,h1,h2=>by
  simp at h1;subst h1
  simp [List.count_cons,h2]
 | y::l,i+1,v,a,h,h1,h2=>by
  have:=count_out l i v a (by simpa using h) (by simpa using h1) h2
  simp only [List.set_cons_succ,List.count_cons]
  omega
theorem count_in:∀(l:List Int) (i:Nat) (a:Int),i<l.length→l.getD i 0≠a→(l.set i a).count a=l.count a+1
 | [],_,_,h,_=>by simp at h
 | y::l,0,a,_,h1=>by
  simp at h1
  simp [List.count_cons,h1]
 | y::l,i+1,a,h,h1=>by
  have:=count_in l i a (by simpa using h) (by simpa using h1)
  simp only [List.set_cons_succ,List.count_cons]
  omega
theorem first_lt {w:List Int} (h: -1∈w):w.idxOf (-1)<w.length∧w.getD (w.idxOf (-1)) 0= -1:=by
 have hk:=List.idxOf_lt_length_iff.2 h
 exact⟨hk,by rw [List.getD_eq_getElem?_getD,List.getElem?_eq_getElem hk];exact List.getElem_idxOf hk⟩
instance c148 [o:Ob slotsC cs b x put]:Go1 (fn 148 [.pointer (some (ad b 0))] K cs)
  ((x.next<4096∧-1∈x.who)∧∀x',SlX.m x'=x.m.open→x'.who.length=x.who.length→K (.tuple ⟨[.int .i64 x.next,.int .i64 (x.m.first:Nat),.bool true]⟩) (put (slotsC b x'))):=⟨fun⟨⟨hx,hm⟩,h⟩=>by
 refine o.fn3 (slP b x) (bk x.bw 3 (List.map (Value.int .i64) x.who)) (mpC mvI x.bm x.M) rfl fun F=>f148 ?_
 have hn:=x.hn;have hc:=x.cnt;have hl:=x.h1
 obtain⟨f1,f2⟩:=first_lt hm
 have hcp:0<x.who.count (-1):=List.count_pos_iff.2 hm
 unfold s148
 refine goj ?_
 simp only [ge_iff_le,decide_eq_true_eq,decide_eq_false_iff_not,beq_iff_eq,beq_eq_false_iff_ne,if_pos hm]
 refine⟨fun c=>by omega,fun _=>⟨fun c=>by omega,fun _=>⟨⟨trivial,by omega⟩,⟨by omega,by omega⟩,by rw [Int.toNat_natCast];exact f1,fun M' hM=> ?_⟩⟩⟩
 rw [w64_id (by omega),Int.toNat_natCast]
 have hnone:iget x.M.l x.next=none:=by
  cases hg:iget x.M.l x.next with
  | none=>rfl
  | some s=>have:=x.hid _ s hg;omega
 have hh:=h ⟨x.bw,x.bm,x.who.set (x.who.idxOf (-1)) x.next,M',x.next+1,by rw [List.length_set];exact hl,by rw [hM];exact iset_nodup x.nd _ _,
  fun s hs hne=>by
   simp only [List.length_set]at hs
   rw [getD_set' _ _ _ _ _ f1]at hne ⊢
   rw [hM,iget_set]
   by_cases c:x.who.idxOf (-1)=s
   ·rw [if_pos c,if_pos rfl,c]
   ·rw [if_neg c]at hne ⊢
    have:=x.at1 s hs hne
    have h2:=x.hid _ _ this
    rw [if_neg (by omega)]
    exact this,
  fun id s hs=>by
   rw [hM,iget_set]at hs
   simp only [List.length_set]
   rw [getD_set' _ _ _ _ _ f1]
   by_cases c:id=x.next
   ·rw [if_pos c]at hs;cases hs
    exact⟨by omega,by omega,by rw [if_pos (by omega)];exact c.symm⟩
   ·rw [if_neg c]at hs
    have a:=x.at2 id s hs
    refine⟨a.1,a.2.1,?_⟩
    have h2:=x.hid id s hs
    rw [if_neg (fun e=>by rw [←e,f2]at a;omega)]
    exact a.2.2,
  by rw [hM,iset_length hnone,List.length_set];have:=count_out x.who _ x.next (-1) f1 f2 (by omega);omega,
  by omega,
  fun id s hs=>by
   rw [hM,iget_set]at hs
   by_cases c:id=x.next
   ·omega
   ·rw [if_neg c]at hs;have:=x.hid id s hs;omega⟩ rfl (by simp)
 refine⟨bk b 258 [.slice (some (ad x.bw 0)) x.who.length x.who.length,.map (some x.bm),.int .i64 (x.next+1)],bk x.bw 3 (List.map (Value.int .i64) (x.who.set (x.who.idxOf (-1)) x.next)),mpC mvI x.bm M',drp,?_⟩
 simp only [slotsC,slP,List.length_set]at hh
 exact hh⟩
instance c256 [o:Ob slotsC cs b x put] {id:Int}:Go1 (fn 256 [.pointer (some (ad b 0)),.int .i64 id] K cs)
  (∀x',SlX.m x'=x.m.close id→x'.who.length=x.who.length→∀r,K (.bool r) (put (slotsC b x'))):=⟨fun h=>by
 refine o.fn3 (slP b x) (bk x.bw 3 (List.map (Value.int .i64) x.who)) (mpC mvI x.bm x.M) rfl fun F=>f256 ?_
 have hc:=x.cnt;have hl:=x.h1
 unfold s256
 refine f235 ?_
 unfold s235
 refine go ?_
 cases hs:x.m.slot id with
 | none=>
  have hg:iget x.M.l id=none:=by rw [x.slot_eq,hs];rfl
  simp only [hg,Option.isSome_none,Option.getD_none]
  refine⟨fun c=>(by cases c),fun _=>sl_open b (y:=x) (h x (by simp [Slots.close,hs]) rfl _)⟩
 | some s=>
  have hg:iget x.M.l id=some (s:Int):=by rw [x.slot_eq,hs];rfl
  obtain⟨a1,a2,a3⟩:=x.at2 id s hg
  have a4:=x.hid id s hg
  simp only [hg,Option.isSome_some,Option.getD_some,Int.toNat_natCast]at a3 ⊢
  refine⟨fun _=>⟨⟨a1,a2⟩,by omega,fun M' hM=> ?_⟩,fun c=>by cases c⟩
  have hlt:s<x.who.length:=by omega
  have hh:=h ⟨x.bw,x.bm,x.who.set s (-1),M',x.next,by rw [List.length_set];exact hl,by rw [hM];exact x.nd.sublist (idel_sub.map _),
   fun j hj hne=>by
    simp only [List.length_set]at hj
    rw [getD_set' _ _ _ _ _ hlt]at hne ⊢
    rw [hM,iget_del x.nd]
    by_cases c:s=j
    ·rw [if_pos c]at hne;exact absurd rfl hne
    ·rw [if_neg c]at hne ⊢
     have:=x.at1 j hj hne
     rw [if_neg (fun e=>by rw [e,hg]at this;cases this;omega)]
     exact this,
   fun id' s' hs'=>by
    rw [hM,iget_del x.nd]at hs'
    simp only [List.length_set]
    by_cases c:id'=id
    ·rw [if_pos c]at hs';cases hs'
    ·rw [if_neg c]at hs'
     have a:=x.at2 id' s' hs'
     refine⟨a.1,a.2.1,?_⟩
     rw [getD_set' _ _ _ _ _ hlt,if_neg (fun e=>by rw [←e,a3]at a;exact c a.2.2.symm)]
     exact a.2.2,
   by have h1:=idel_length hg;rw [hM,List.length_set];have:=count_in x.who s (-1) hlt (by omega);omega,
   x.hn,
   fun id' s' hs'=>by
    rw [hM,iget_del x.nd]at hs'
    by_cases c:id'=id
    ·rw [if_pos c]at hs';cases hs'
    ·rw [if_neg c]at hs';exact x.hid id' s' hs'⟩ (by simp [Slots.close,hs]) (by simp) true
  refine⟨slP b x,bk x.bw 3 (List.map (Value.int .i64) (x.who.set s (-1))),mpC mvI x.bm M',drp,?_⟩
  simp only [slotsC,slP,List.length_set]at hh
  exact hh⟩
instance c79 {most:Int}:Go1 (fn 79 [.int .i64 most] K cs) (∀b x,SlX.m x=Slots.new most→K (.pointer (some (ad b 0))) (slotsC b x::cs)):=⟨fun h=>up0 (f79 (by
 unfold s79
 have e:(if 1024<if 1>most then 1 else most then 1024 else if 1>most then 1 else most)=min (max most 1) 1024:=by omega
 rw [e]
 have hx:1≤min (max most 1) 1024∧min (max most 1) 1024≤1024:=by omega
 obtain⟨m,hm⟩:∃m:Nat,min (max most 1) 1024=m:=⟨(min (max most 1) 1024).toNat,by omega⟩
 have hnew:Slots.new most=⟨List.replicate m (-1),0⟩:=by unfold Slots.new;rw [hm,Int.toNat_natCast]
 rw [hm]at hx ⊢
 refine go ?_
 refine⟨by omega,fun bw r M hM b=> ?_⟩
 refine lp (fun i:Nat=>[.int .i64 i]) (fun i=>bk b 258 [.slice (some (ad bw 0)) m m,.map (some r),.int .i64 0]::bk bw 3 (List.map (Value.int .i64) (List.replicate i (-1)++List.replicate (m-i) 0))::mpC mvI r M::cs) (fun i=>i≤m) (fun i=>m-i) 0 rfl (by simp only [List.replicate_zero,List.nil_append,Nat.sub_zero,Int.toNat_natCast];exact drp) (Nat.zero_le _) ?_
 intro i hi
 refine go ?_
 simp only [Int.toNat_natCast,decide_eq_true_eq,decide_eq_false_iff_not]
 refine⟨fun c=>⟨⟨by omega,by omega⟩,by simp;omega,⟨i+1,by rw [w64_id (by omega)];simp,?_,by omega,by omega⟩⟩,fun c=> ?_⟩
 ·have:(List.replicate i (-1:Int)++List.replicate (m-i) 0).set i (-1)=List.replicate (i+1) (-1)++List.replicate (m-(i+1)) 0:=by
   rw [List.set_append_right _ _ (by simp)]
   simp only [List.length_replicate,Nat.sub_self]
   obtain⟨d,hd⟩:∃d,m-i=d+1:=⟨m-i-1,by omega⟩
   rw [hd,show m-(i+1)=d by omega,List.replicate_succ,List.set_cons_zero,List.replicate_succ' (n:=i),List.append_assoc]
   rfl
  rw [this]
  exact drp
 ·have him:i=m:=by omega
  subst him
  have hh:=h b ⟨bw,r,List.replicate i (-1),M,0,by simp;omega,by rw [hM];exact .nil,fun s hs hne=>by
    simp only [List.length_replicate]at hs
    simp [List.getD_eq_getElem?_getD,List.getElem?_replicate,hs]at hne,fun id s hs=>by rw [hM]at hs;simp [iget]at hs,by rw [hM];simp,by omega,fun id s hs=>by rw [hM]at hs;simp [iget]at hs⟩ hnew.symm
  simp only [slotsC,slP,List.length_replicate]at hh
  simp only [Nat.sub_self,List.replicate_zero,List.append_nil]
  exact fin hh))⟩
end
@[reducible] def encP:Enc (Option Addr) 1:=⟨fun x=>[.pointer x],by omega,fun _=>rfl⟩
instance fdP0:FdP encP 0 id:=⟨fun _=>rfl⟩
@[reducible] def evCells (x:EvM):List Value:=[.int .i64 x.kind,.int .i64 x.id,.int .i64 x.n,.int .i64 x.tick,.string x.bytes,.int .i64 x.err,.int .i64 x.step.tick,.int .i64 x.step.at_,.int .i64 x.step.what,.int .i64 x.step.arm,.int .i64 x.step.n,.int .i64 x.step.status]
@[reducible] def encEv:Enc EvM 12:=⟨evCells,by omega,fun _=>rfl⟩
abbrev PrV:=PrM×Option Addr×Nat×Nat
@[reducible] def encPr:Enc PrV 4:=⟨fun x=>prCells x.1 x.2.1 x.2.2.1 x.2.2.2,by omega,fun _=>rfl⟩
class PrsR (cs:St) (a:Option Addr) (n c:Nat) (ps:outParam (List PrM)):Prop where
 h:∃L,RdS cs encPr a n c L∧L.map Prod.fst=ps∧∀x∈L,PrR cs (prCells x.1 x.2.1 x.2.2.1 x.2.2.2) x.1
theorem PrR.sub {cs cs':St} {v:List Value} {p:PrM} (r:PrR cs v p) (hm:∀x∈cs.flatten,x∈cs'.flatten):PrR cs' v p:=⟨by
 obtain⟨a,n,c,L,h1,h2,h3,h4⟩:=r.h
 exact⟨a,n,c,L,h1,h2.sub hm,h3,fun x hx=>(h4 x hx).sub hm⟩⟩
theorem PrsR.sub {cs cs':St} {a:Option Addr} {n c:Nat} {ps:List PrM} (r:PrsR cs a n c ps) (hm:∀x∈cs.flatten,x∈cs'.flatten):PrsR cs' a n c ps:=⟨by
 obtain⟨L,h2,h3,h4⟩:=r.h
 exact⟨L,h2.sub hm,h3,fun x hx=>(h4 x hx).sub hm⟩⟩
instance (priority:=40) prsThere {cs:St} {a:Option Addr} {n c:Nat} {ps:List PrM} {d:Chunk} [r:PrsR cs a n c ps]:PrsR (d::cs) a n c ps:=r.sub (fun x hx=>by simp only [List.flatten_cons,List.mem_append];exact .inr hx)
structure Scs where
 ps:List PrM
 a:Option Addr
 n:Nat
 c:Nat
 ch:Chunk
 r:PrsR [ch] a n c ps
structure SeatH where
 id:Int
 sb:Nat
 db:Nat
 wb:Nat
 dl:Dl
 wi:Wi
def SeatH.m (s:SeatH):Seat:=⟨s.id,s.dl.d,s.wi.q,s.wi.eof⟩
@[reducible] def sCells (s:SeatH):List Value:=[.int .i64 s.id,.pointer (some (ad s.db 0)),.pointer (some (ad s.wb 0))]
def seatC (s:SeatH):Chunk:=bk s.sb 197 (sCells s)++(dialC s.db s.dl++wireC s.wb s.wi)
def soC:Option SeatH→Chunk
 | none=>[]
 | some s=>seatC s
def seatsC (l:List (Option SeatH)):Chunk:=l.flatMap soC
def ptrS (o:Option SeatH):Option Addr:=o.map fun s=>ad s.sb 0
structure En where
 m:Eng
 scs:Scs
 slb:Nat
 slx:SlX
 sra:Option Addr
 sn:Nat
 src:Nat
 srch:Chunk
 seats:List (Option SeatH)
 tb:Nat
 tx:TuX
 hb:Nat
 hx:HpW
 mr:Nat
 M:Mp mvI
 rounds:Int
 oa:Option Addr
 on:Nat
 oc:Nat
 och:Chunk
 srow:Row 198 1 sra sn src encP (seats.map ptrS) srch
 orow:Row 101 12 oa on oc encEv m.out och
 r0:scs.ps=m.scripts
 r1:slx.m=m.slots
 r2:tx.m=m.turns
 r3:HpI hx m.tm
 r4:seats.map (Option.map SeatH.m)=m.seats
 ok:m.Ok
@[reducible] def eCells (x:En):List Value:=[.int .i64 x.m.s.live,.int .i64 x.m.s.ring,.int .i64 x.m.s.win,.int .i64 x.m.s.out,.int .i64 x.m.s.quantum,.int .i64 x.m.s.visits,.slice x.scs.a x.scs.n x.scs.c,.pointer (some (ad x.slb 0)),.slice x.sra x.sn x.src,.pointer (some (ad x.tb 0)),.pointer (some (ad x.hb 0)),.map (some x.mr),.int .i64 x.m.clock,.int .i64 x.rounds,.bool x.m.drains,.bool x.m.stopped,.slice x.oa x.on x.oc]
abbrev eParts (b:Nat) (x:En):St:=[bk b 174 (eCells x),x.scs.ch,slotsC x.slb x.slx,x.srch,turnsC x.tb x.tx,hpC x.hb x.hx,mpC mvI x.mr x.M,x.och,seatsC x.seats]
def engC (b:Nat) (x:En):Chunk:=(eParts b x).flatten
abbrev eFoc (b:Nat) (x:En) (k:Nat) (s:SeatH):St:=[bk b 174 (eCells x),x.scs.ch,slotsC x.slb x.slx,x.srch,turnsC x.tb x.tx,hpC x.hb x.hx,mpC mvI x.mr x.M,x.och,seatsC (x.seats.take k),bk s.sb 197 (sCells s),dialC s.db s.dl,wireC s.wb s.wi,seatsC (x.seats.drop (k+1))]
theorem seats_split {l:List (Option SeatH)} {k:Nat} {s:SeatH} (h:l[k]? =some (some s)):seatsC l=seatsC (l.take k)++(seatC s++seatsC (l.drop (k+1))):=by
 have hl:=(List.getElem?_eq_some_iff.1 h)
 obtain⟨hl,he⟩:=hl
 have:l=l.take k++(some s::l.drop (k+1)):=by rw [←he,←List.drop_eq_getElem_cons hl,List.take_append_drop]
 have h2:=congrArg seatsC this
 rw [h2]
 simp [seatsC,soC]
theorem eFoc_eq {b:Nat} {x:En} {k:Nat} {s:SeatH} (h:x.seats[k]? =some (some s)):(eFoc b x k s).flatten=engC b x:=by
 unfold engC eFoc eParts
 simp only [List.flatten_cons,List.flatten_nil,List.append_nil,seats_split h,seatC,List.append_assoc]
theorem En.seat_iff (x:En) {k:Nat} {y:Seat}:x.m.seat k=some y↔∃s,x.seats[k]? =some (some s)∧s.m=y:=by
 rw [seat_get,←x.r4,List.getElem?_map]
 cases x.seats[k]? with
 | none=>simp
 | some o=>cases o with
  | none=>simp
  | some s=>simp
theorem eShut {b:Nat} {x:En} {F:St}:Imp (eParts b x++F) (engC b x::F):=Imp.of_sub (l:=[]) (by simp [engC,eParts])
theorem eLay {b:Nat} {x:En} {F:St}:Imp (engC b x::F) (eParts b x++F):=Imp.of_sub (l:=[]) (by simp [engC,eParts])
theorem eShutF {b:Nat} {x:En} {k:Nat} {s:SeatH} (h:x.seats[k]? =some (some s)) {F:St}:Imp (eFoc b x k s++F) (engC b x::F):=Imp.of_sub (l:=[]) (by rw [List.flatten_append,eFoc_eq h];simp)
theorem eLayF {b:Nat} {x:En} {k:Nat} {s:SeatH} (h:x.seats[k]? =some (some s)) {F:St}:Imp (engC b x::F) (eFoc b x k s++F):=Imp.of_sub (l:=[]) (by rw [List.flatten_append,eFoc_eq h];simp)
def En.upS (x:En) (k:Nat) (s s':SeatH) (hk:x.seats[k]? =some (some s)) (hp:s'.sb=s.sb) (ok:(x.m.setSeat k (some s'.m)).Ok):En:=
 {x with
  m:=x.m.setSeat k (some s'.m)
  seats:=x.seats.set k (some s')
  ok:=ok
  srow:=by
   have:(x.seats.set k (some s')).map ptrS=x.seats.map ptrS:=by
    apply List.ext_getElem?
    intro i
    rw [List.map_set,List.getElem?_set]
    split
    ·rename_i hi
     subst hi
     have:=lt_of_get hk
     rw [List.getElem?_map,hk]
     simp [this,ptrS,hp]
    ·rfl
   rw [this];exact x.srow
  r4:=by
   unfold Eng.setSeat
   simp only [List.map_set,x.r4]
   rfl}
theorem upS_get {x:En} {k:Nat} {s s':SeatH} {hk:x.seats[k]? =some (some s)} {hp:s'.sb=s.sb} {ok:(x.m.setSeat k (some s'.m)).Ok}:(x.upS k s s' hk hp ok).seats[k]? =some (some s'):=by
 have:=lt_of_get hk
 simp [En.upS,this]
theorem upS_foc {b:Nat} {x:En} {k:Nat} {s s':SeatH} {hk:x.seats[k]? =some (some s)} {hp:s'.sb=s.sb} {ok:(x.m.setSeat k (some s'.m)).Ok}:eFoc b (x.upS k s s' hk hp ok) k s'=eFoc b x k s':=by
 have h1:(x.seats.set k (some s')).take k=x.seats.take k:=by
  apply List.ext_getElem?;intro i
  by_cases hi:i<k
  ·rw [List.getElem?_take_of_lt hi,List.getElem?_take_of_lt hi,List.getElem?_set_ne (by omega)]
  ·rw [List.getElem?_eq_none (by simp;omega),List.getElem?_eq_none (by simp;omega)]
 have h2:(x.seats.set k (some s')).drop (k+1)=x.seats.drop (k+1):=by
  apply List.ext_getElem?;intro i
  rw [List.getElem?_drop,List.getElem?_drop,List.getElem?_set_ne (by omega)]
 unfold eFoc
 simp only [En.upS,eCells,Eng.setSeat,h1,h2]
theorem upS_shut {b:Nat} {x:En} {k:Nat} {s s':SeatH} (hk:x.seats[k]? =some (some s)) (hp:s'.sb=s.sb) (ok:(x.m.setSeat k (some s'.m)).Ok) {F:St}:Imp (eFoc b x k s'++F) (engC b (x.upS k s s' hk hp ok)::F):=by
 rw [←upS_foc (b:=b) (hk:=hk) (hp:=hp) (ok:=ok)]
 exact eShutF upS_get
instance bd101:BdT 101 [(0,1),(1,1),(2,1),(3,1),(4,1),(5,1),(6,6)] [.int .i64 0,.int .i64 0,.int .i64 0,.int .i64 0,.string .empty,.int .i64 0,.int .i64 0,.int .i64 0,.int .i64 0,.int .i64 0,.int .i64 0,.int .i64 0]:=⟨by kernel_rfl⟩
def Seat.post (x:Seat) (now:Int):Seat:=match x.d.step now with
 | none=>x
 | some y=>{x with d:=y.2}
def Eng.pre (e:Eng) (k:Nat) (x:Seat):Eng:=match x.d.step e.clock with
 | none=>e
 | some y=>(e.setSeat k (some {x with d:=y.2})).tell (evStep x.id y.1)
theorem step_eq {e:Eng} {k:Nat} {x:Seat} (hk:e.seat k=some x):e.step k=if(x.post e.clock).d.status=0 then(true,e.pre k x)else(false,(e.pre k x).gone k x.id):=by
 unfold Eng.step Seat.post Eng.pre
 rw [hk]
 dsimp only
 cases x.d.step e.clock with
 | none=>rfl
 | some y=>rfl
theorem pre_ok {e:Eng} (h:e.Ok) {k:Nat} {x:Seat} (hk:e.seat k=some x):(e.pre k x).Ok∧(e.pre k x).seat k=some (x.post e.clock):=by
 unfold Seat.post Eng.pre
 obtain⟨d1,d2,d4⟩:=h.dO k x hk
 cases hst:x.d.step e.clock with
 | none=>exact⟨h,hk⟩
 | some y=>
  obtain⟨y,d'⟩:=y
  obtain⟨s1,s2,s3,s4,s5,s6⟩:=step_like hst
  have hok:=step_ok' d1 (by have:=h.c1;omega) hst
  refine⟨tell_ok (setSeat_ok (y:={x with d:=d'}) h hk rfl ⟨hok,s1.trans d2,by simp only;rw [s3];omega⟩) _,?_⟩
  exact(setSeat_seat hk _ k).trans (if_pos rfl)
instance rowSet1 {α:Type} {T by_ t t' n c:Nat} {i:Int} {a:Option Addr} {e:Enc α 1} {l:List α} {cs:St} {ch:Chunk} {put:Chunk→St} {v:Value} {K:SP} [p:SlcT t T 1 by_] [q:SzT t' 1] [r:Row T 1 a n c e l ch] [at_:ChAt cs ch put] [o1:One v]:
  Go1 (ix t (.slice a n c) i (fun p=>st t' p v K) cs) ((0≤i∧i<n)∧∃y,e.f y=[v]∧∀ch',Row T 1 a n c e (l.set i.toNat y) ch'→K (put ch')):=⟨fun⟨hi,y,hy,hh⟩=>by
 have hlen:=r.len
 have hlt:i.toNat<l.length:=by omega
 obtain⟨k,hk,hput⟩:=at_.h
 obtain⟨rb,o,X,Z,rfl,ho,hch,hrow⟩:=r.split hlt
 refine ix_at hi.1 hi.2 ?_ (slc_ix p)
 have he:=e.len l[i.toNat]
 refine st_wr (l:=[v]) (by rw [one_cells o1.h]) (fun u hu=>by rw [List.mem_singleton.1 hu];exact o1.h) (by simp only [List.length_singleton];exact q.h) ⟨k,T,_,by rw [←hch];exact hk,?_,rfl⟩ ?_
 ·simp only [List.length_append,List.length_singleton];omega
 ·have e5:lay (X++(e.f l[i.toNat]++Z)) (o+i.toNat*1) [v]=X++(e.f y++Z):=by
   rw [ho,←Nat.add_zero X.length,lay_pre X [] 0,lay_left _ _ _ _ (by simp only [List.length_singleton];omega),hy]
   obtain⟨u,hu⟩:=List.length_eq_one_iff.1 he
   rw [hu];rfl
  rw [e5,←hput]
  exact hh _ (hrow y)⟩
theorem seats_none {l:List (Option SeatH)} {k:Nat} (h:k<l.length):seatsC (l.set k none)=seatsC (l.take k)++seatsC (l.drop (k+1)):=by
 rw [List.set_eq_take_append_cons_drop,if_pos h]
 simp [seatsC,soC]
section
variable {cs:St} {b:Nat} {x:En} {put:Chunk→St} {K:Value→SP}
instance engRd [o:Ob engC cs b x put]:RdB cs b 174 (eCells x):=⟨by
 obtain⟨i,h,_⟩:=o.h;exact Rd.in h (by simp [engC,eParts,bk])⟩
theorem eKeep (o:Ob engC cs b x put) {F c:St} {v:Value} (h:K v cs) (hi:Imp c (eParts b x++F)):∃parts',Imp c (parts'++F)∧K v (put parts'.flatten):=⟨eParts b x,hi,by show K v (put (engC b x));rw [o.same];exact h⟩
theorem eDone {F c:St} {v:Value} (x':En) (hi:Imp c (engC b x'::F)) (h:K v (put (engC b x'))):∃parts',Imp c (parts'++F)∧K v (put parts'.flatten):=⟨[engC b x'],hi,by simpa using h⟩
instance c86 [o:Ob engC cs b x put] {k id n t er t1 t2 t3 t4 t5 t6:Int} {s:ByteArray}:Go1 (fn 86 [.pointer (some (ad b 0)),.agg ⟨[.int .i64 k,.int .i64 id,.int .i64 n,.int .i64 t,.string s,.int .i64 er,.int .i64 t1,.int .i64 t2,.int .i64 t3,.int .i64 t4,.int .i64 t5,.int .i64 t6]⟩] K cs)
  (x.m.out.length<1000000000000∧∀x',En.m x'=x.m.tell ⟨k,id,n,t,s,er,⟨t1,t2,t3,t4,t5,t6⟩⟩→x'.seats=x.seats→K undef (put (engC b x'))):=⟨fun⟨hl,h⟩=>o.fn (eParts b x) rfl fun F=>f86 (by
 have hr:=x.orow
 have hn:=x.orow.len
 simp only [List.cons_append,List.nil_append]
 unfold s86
 refine go fun b1=>⟨by decide,fun b2=>⟨⟨by omega,by omega⟩,⟨k,id,n,t,s,er,⟨t1,t2,t3,t4,t5,t6⟩⟩,rfl,fun a' c' ch' r'=> ?_⟩⟩
 refine go ?_
 refine eDone {x with m:=x.m.tell ⟨k,id,n,t,s,er,⟨t1,t2,t3,t4,t5,t6⟩⟩,oa:=a',on:=x.on+1,oc:=c',och:=ch',orow:=r',ok:=tell_ok x.ok _} (Imp.trans ?_ eShut) (h _ rfl rfl)
 dsimp only [eParts,eCells,Eng.tell,List.cons_append,List.nil_append]
 exact drp)⟩
instance c152 [o:Ob engC cs b x put] {id:Int}:Go1 (fn 152 [.pointer (some (ad b 0)),.int .i64 id] K cs)
  ((x.m.slots.slot id=none→K (.tuple ⟨[.pointer none,.int .i64 0,.bool false]⟩) cs)∧∀(k:Nat) (s:SeatH),x.m.slots.slot id=some k→x.seats[k]? =some (some s)→s.id=id→K (.tuple ⟨[.pointer (some (ad s.sb 0)),.int .i64 k,.bool true]⟩) cs):=⟨fun⟨h1,h2⟩=>o.fn (eParts b x) rfl fun F=>f152 (by
 have hr:=x.srow
 have hn:=x.srow.len
 simp only [List.cons_append,List.nil_append]
 unfold s152
 refine go ⟨fun c1=> ?_,fun c1=> ?_⟩
 ·have hs:x.m.slots.slot id=none:=by
   rw [←x.r1];simpa using c1
  exact eKeep o (h1 hs) (Imp.refl _)
 ·have hs':(x.slx.m.slot id).isSome=true:=by simpa using c1
  obtain⟨k,hk⟩:=Option.isSome_iff_exists.1 hs'
  have hk2:x.m.slots.slot id=some k:=by rw [←x.r1];exact hk
  obtain⟨y,hy,hid⟩:=x.ok.of_slot hk2
  obtain⟨s,hs,hm⟩:=x.seat_iff.1 hy
  have hlt:=lt_of_get hs
  rw [List.length_map]at hn
  have e1:slotI (x.slx.m.slot id)=(k:Int):=by rw [hk];rfl
  rw [e1]
  refine⟨⟨by omega,by omega⟩,fun p hp=> ?_⟩
  rw [Int.toNat_natCast,List.getElem?_map,hs]at hp
  cases hp
  refine eKeep o (h2 k s hk2 hs (by rw [←hid,←hm];rfl)) (Imp.refl _))⟩
instance c151 [o:Ob engC cs b x put] {i:Int}:Go1 (fn 151 [.pointer (some (ad b 0)),.int .i64 i] K cs)
  ((0≤i∧∃s,x.seats[i.toNat]? =some (some s))∧∀x',En.m x'=x.m.settle i.toNat→x'.seats=x.seats→K undef (put (engC b x'))):=⟨fun⟨⟨hi,s,hs⟩,h⟩=>by
 obtain⟨k,rfl⟩:∃k:Nat,i=k:=⟨i.toNat,by omega⟩
 rw [Int.toNat_natCast]at hs h
 refine o.fn (eFoc b x k s) (eFoc_eq hs) fun F=>f151 ?_
 have hr:=x.srow
 have hn:=x.srow.len
 have hlt:=lt_of_get hs
 have hseat:x.m.seat k=some s.m:=x.seat_iff.2 ⟨s,hs,rfl⟩
 have hkl:=x.ok.lt hseat
 have htl:=x.r3.cns.tl
 have h4:=x.ok.l4
 have h3:=x.ok.l3
 have hlen:x.tx.f.inn.length=x.m.turns.most:=by rw [←x.r2];rfl
 have hnl:=next_le s.dl.d
 have hok:=settle_ok x.ok (k:=k)
 rw [List.length_map]at hn
 have es:x.m.settle k={x.m with tm:=tmSet x.m.tm k s.dl.d.next,turns:=if s.dl.d.ready x.m.clock then x.m.turns.wake k else x.m.turns}:=by
  unfold Eng.settle;rw [hseat];rfl
 rw [es]at h hok
 simp only [List.cons_append,List.nil_append]
 unfold s151
 refine go ⟨⟨by omega,by omega⟩,fun p hp=> ?_⟩
 rw [Int.toNat_natCast,List.getElem?_map,hs]at hp
 cases hp
 simp only [ptrS,Option.map_some,id]
 refine go ⟨x.m.tm,⟨⟨by omega,by omega⟩,hnl⟩,x.r3,fun w' g1 g2 r=> ?_⟩
 rw [Int.toNat_natCast]at g1
 refine go ⟨fun c1=>⟨⟨by omega,by omega⟩,fun t' r' q1=> ?_⟩,fun c1=> ?_⟩
 ·rw [Int.toNat_natCast,x.r2]at q1
  rw [c1,if_pos rfl]at h hok
  let x':En:={x with m:={x.m with tm:=tmSet x.m.tm k s.dl.d.next,turns:=x.m.turns.wake k},hx:=w',tx:=t',r3:=g1,r2:=q1,ok:=hok}
  refine eDone x' (Imp.trans ?_ (eShutF (x:=x') (k:=k) (s:=s) hs)) (h _ rfl rfl)
  dsimp only [x',eFoc,eCells,List.cons_append,List.nil_append]
  exact drp
 ·rw [c1,if_neg (by decide)]at h hok
  let x':En:={x with m:={x.m with tm:=tmSet x.m.tm k s.dl.d.next},hx:=w',r3:=g1,ok:=hok}
  refine eDone x' (Imp.trans ?_ (eShutF (x:=x') (k:=k) (s:=s) hs)) (h _ rfl rfl)
  dsimp only [x',eFoc,eCells,List.cons_append,List.nil_append]
  exact drp⟩
instance c164 [o:Ob engC cs b x put] {i:Int}:Go1 (fn 164 [.pointer (some (ad b 0)),.int .i64 i] K cs)
  (∃(k:Nat) (s:SeatH),(i=k∧x.seats[k]? =some (some s)∧x.m.out.length<1000000000000)∧∀x',En.m x'=(x.m.step k).2→((x.m.step k).1=true→∃s',x'.seats=x.seats.set k (some s')∧s'.sb=s.sb∧s'.db=s.db∧s'.wb=s.wb)→K (.bool (x.m.step k).1) (put (engC b x'))):=⟨fun⟨k,s,⟨hi,hs,hl⟩,h⟩=>by
 subst hi
 refine o.fn (eFoc b x k s) (eFoc_eq hs) fun F=>f164 ?_
 have hr:=x.srow
 have hn:=x.srow.len
 have hlt:=lt_of_get hs
 have hseat:x.m.seat k=some s.m:=x.seat_iff.2 ⟨s,hs,rfl⟩
 have hse:=step_eq hseat
 obtain⟨hpo,hps⟩:=pre_ok x.ok hseat
 rw [List.length_map]at hn
 have hcl:=x.ok.c1
 simp only [List.cons_append,List.nil_append]
 unfold s164
 refine go ⟨⟨by omega,by omega⟩,fun p hp=> ?_⟩
 rw [Int.toNat_natCast,List.getElem?_map,hs]at hp
 cases hp
 simp only [ptrS,Option.map_some,id]
 refine⟨fun l cx=>∃q v did dl',l=[.pointer (some (ad q 0)),.bool did]∧Imp cx (bk q 99 v::(eFoc b x k {s with dl:=dl'}++F))∧((did=false∧s.dl.d.step x.m.clock=none∧dl'=s.dl)∨(did=true∧∃y,v=stC y∧s.dl.d.step x.m.clock=some (y,Dl.d dl'))),?_,?_⟩
 ·rintro l cx ⟨q,v,did,dl',rfl,hi,hc⟩
  refine⟨_,hi,?_⟩
  refine go ?_
  refine⟨fun l cx=>∃x1:En,x1.m=x.m.pre k s.m∧x1.seats=x.seats.set k (some {s with dl:=dl'})∧Imp cx (eFoc b x1 k {s with dl:=dl'}++F),?_,?_⟩
  ·rintro l cx ⟨x1,hm1,hs1,hi1⟩
   refine⟨_,hi1,?_⟩
   have hpd:(s.m.post x.m.clock).d=dl'.d:=by
    unfold Seat.post
    rcases hc with ⟨_,hst,rfl⟩ | ⟨_,y,_,hst⟩
    ·rw [show s.m.d=s.dl.d from rfl,hst];rfl
    ·rw [show s.m.d=s.dl.d from rfl,hst]
   rw [hpd]at hse
   have hg1:x1.seats[k]? =some (some {s with dl:=dl'}):=by rw [hs1];simp [hlt]
   simp only [List.cons_append,List.nil_append]
   refine go fun M1 hM1=> ?_
   simp only [beq_iff_eq,beq_eq_false_iff_ne,ne_eq]
   refine⟨fun c1=> ?_,fun c1=> ?_⟩
   ·rw [if_pos c1]at hse
    rw [hse]at h
    refine eDone {x1 with M:=M1} (Imp.trans ?_ (eShutF (x:={x1 with M:=M1}) hg1)) (h _ hm1 fun _=>⟨_,hs1,rfl,rfl,rfl⟩)
    dsimp only [eFoc,eCells,List.cons_append,List.nil_append]
    exact drp
   ·rw [if_neg c1]at hse
    rw [hse]at h
    have hr1:=x1.srow
    have hn1:=x1.srow.len
    rw [List.length_map]at hn1
    have hl1:=lt_of_get hg1
    have hseat1:x1.m.seat k=some (SeatH.m {s with dl:=dl'}):=x1.seat_iff.2 ⟨_,hg1,rfl⟩
    have hkl:=x1.ok.lt hseat1
    have htl:=x1.r3.cns.tl
    have h4:=x1.ok.l4
    have h3:=x1.ok.l3
    have hlen:x1.tx.f.inn.length=x1.m.turns.most:=by rw [←x1.r2];rfl
    have hgo:=gone_ok x1.ok hseat1
    refine go fun wi' w1 w2 slx' g1 g2 r6=>⟨⟨by omega,by omega⟩,none,rfl,fun ch' r'=> ?_⟩
    refine go ⟨⟨by omega,by omega⟩,fun tx' r7 q1=>⟨x1.m.tm,⟨by omega,by omega⟩,x1.r3,fun hx' q2 q3 r8=> ?_⟩⟩
    rw [Int.toNat_natCast]at q1 q2 r'
    have esl:slx'.m=x1.m.slots.close s.id:=by rw [g1,x1.r1]
    have etx:tx'.m=x1.m.turns.leave k:=by rw [q1,x1.r2]
    have emap:(x1.seats.set k none).map ptrS=(x1.seats.map ptrS).set k none:=by rw [List.map_set];rfl
    let x2:En:={x1 with m:=x1.m.gone k s.id,slx:=slx',srch:=ch',seats:=x1.seats.set k none,tx:=tx',hx:=hx',M:=M1,srow:=by rw [emap];exact r',r1:=esl,r2:=etx,r3:=q2,r4:=by unfold Eng.gone;simp only [List.map_set,x1.r4];rfl,ok:=hgo}
    refine eDone x2 (Imp.trans ?_ eShut) (h x2 (by show x1.m.gone k s.id=_;rw [hm1];rfl) (fun hc=>by cases hc))
    have e1:seatsC x2.seats=seatsC (x1.seats.take k)++seatsC (x1.seats.drop (k+1)):=seats_none hl1
    dsimp only [eParts]
    rw [e1]
    dsimp only [x2,eCells,Eng.gone,List.cons_append,List.nil_append]
    exact drp
  ·simp only [List.cons_append,List.nil_append]
   rcases hc with ⟨rfl,hst,rfl⟩ | ⟨rfl,y,rfl,hst⟩
   ·refine go ?_
    refine⟨x,?_,?_,?_⟩
    ·unfold Eng.pre;rw [show s.m.d=s.dl.d from rfl,hst]
    ·apply List.ext_getElem?;intro i
     rw [List.getElem?_set]
     split
     ·rename_i hi;subst hi;exact hs
     ·rfl
    ·exact drp
   ·have hok1:(x.m.setSeat k (some ({s with dl:=dl'}:SeatH).m)).Ok:=by
     unfold Eng.pre at hpo
     rw [show s.m.d=s.dl.d from rfl,hst]at hpo
     exact{hpo with}
    have hpre:x.m.pre k s.m=(x.m.setSeat k (some ({s with dl:=dl'}:SeatH).m)).tell (evStep s.id y):=by
     unfold Eng.pre;rw [show s.m.d=s.dl.d from rfl,hst];rfl
    simp only [stC]
    refine go ?_
    let xs:En:=x.upS k s {s with dl:=dl'} hs rfl hok1
    refine fn_imp (cs':=engC b xs::bk q 99 (stC y)::F) (Imp.trans (by dsimp only [List.cons_append,List.nil_append];exact drp) (upS_shut (s':={s with dl:=dl'}) hs rfl hok1)) ?_
    refine go ⟨hl,fun x2 hx2 hs2=> ?_⟩
    have hs3:x2.seats=x.seats.set k (some {s with dl:=dl'}):=hs2
    refine⟨x2,?_,hs3,?_⟩
    ·rw [hpre,hx2];rfl
    ·exact Imp.trans drp (eLayF (b:=b) (x:=x2) (k:=k) (s:={s with dl:=dl'}) (by rw [hs3];simp [hlt]))
 ·refine go ⟨⟨by omega,fun hst q=>⟨q,st0,false,s.dl,rfl,?_,.inl ⟨rfl,hst,rfl⟩⟩,fun y d' hst dl' hdl q=> ?_⟩,fun q=>⟨by omega,fun hst=>⟨q,st0,false,s.dl,rfl,?_,.inl ⟨rfl,hst,rfl⟩⟩,fun y d' hst dl' hdl=>⟨q,stC y,true,dl',rfl,?_,.inr ⟨rfl,y,rfl,by rw [hdl];exact hst⟩⟩⟩⟩
  ·dsimp only [eFoc,List.cons_append,List.nil_append];exact drp
  ·refine go ⟨q,stC y,true,dl',rfl,?_,.inr ⟨rfl,y,rfl,by rw [hdl];exact hst⟩⟩
   dsimp only [eFoc,List.cons_append,List.nil_append];exact drp
  ·dsimp only [eFoc,List.cons_append,List.nil_append];exact drp
  ·dsimp only [eFoc,List.cons_append,List.nil_append];exact drp⟩
end
end Go.Proofs.YtbjlfobjngogkaaGreatDoor
namespace Go.Proofs.YtbjlfobjngogkaaGreatDoor
open Go Go.Proofs Go.Shelf
def shSort_ren:Go.Shelf.Ren:=⟨fun | 5=>108 | 8=>186 | 7=>185 | 19=>283 | 20=>284 | 10=>274 | 11=>275 | 12=>276 | 13=>277 | 14=>278 | 15=>279 | 16=>280 | 17=>281 | 18=>282 | 30=>352 | 31=>353 | 32=>354 | 33=>355 | 34=>356 | 35=>351 | 40=>396 | n=>n,fun | 23=>34 | 25=>3 | 3=>3 | 32=>317 | 22=>34 | 0=>0 | 44=>394 | 46=>396 | 4=>4 | 36=>388 | 35=>387 | 41=>55 | 5=>5 | 9=>9 | 53=>450 | 57=>454 | 63=>486 | 64=>487 | n=>n,fun | n=>n⟩
theorem shSort:Go.Proofs.SlLaysM.n5 Tryz.prog shSort_ren:={
 mixed:=by kernel_rfl
 f5:=⟨Tryz.f108.name,by decide,Tryz.func108.trans (congrArg some (by kernel_rfl))⟩
 f7:=⟨Tryz.f185.name,by decide,Tryz.func185.trans (congrArg some (by kernel_rfl))⟩
 f8:=Tryz.func186.trans (congrArg some (by kernel_rfl))
 f10:=⟨Tryz.f274.name,by decide,Tryz.func274.trans (congrArg some (by kernel_rfl))⟩
 f11:=⟨Tryz.f275.name,by decide,Tryz.func275.trans (congrArg some (by kernel_rfl))⟩
 f12:=⟨Tryz.f276.name,by decide,Tryz.func276.trans (congrArg some (by kernel_rfl))⟩
 f13:=⟨Tryz.f277.name,by decide,Tryz.func277.trans (congrArg some (by kernel_rfl))⟩
 f14:=⟨Tryz.f278.name,by decide,Tryz.func278.trans (congrArg some (by kernel_rfl))⟩
 f15:=⟨Tryz.f279.name,by decide,Tryz.func279.trans (congrArg some (by kernel_rfl))⟩
 f16:=⟨Tryz.f280.name,by decide,Tryz.func280.trans (congrArg some (by kernel_rfl))⟩
 f17:=⟨Tryz.f281.name,by decide,Tryz.func281.trans (congrArg some (by kernel_rfl))⟩
 f18:=⟨Tryz.f282.name,by decide,Tryz.func282.trans (congrArg some (by kernel_rfl))⟩
 f19:=Tryz.func283.trans (congrArg some (by kernel_rfl))
 f20:=Tryz.func284.trans (congrArg some (by kernel_rfl))
 f30:=⟨Tryz.f352.name,by decide,Tryz.func352.trans (congrArg some (by kernel_rfl))⟩
 f31:=Tryz.func353.trans (congrArg some (by kernel_rfl))
 f32:=Tryz.func354.trans (congrArg some (by kernel_rfl))
 f33:=⟨Tryz.f355.name,by decide,Tryz.func355.trans (congrArg some (by kernel_rfl))⟩
 f34:=⟨Tryz.f356.name,by decide,Tryz.func356.trans (congrArg some (by kernel_rfl))⟩
 f35:=⟨Tryz.f351.name,by decide,Tryz.func351.trans (congrArg some (by kernel_rfl))⟩
 f40:=⟨Tryz.f396.name,by decide,Tryz.func396.trans (congrArg some (by kernel_rfl))⟩
 t0:=Tryz.underlying0
 a0:=Tryz.isAgg0
 z0:=Tryz.sizeOf0
 v0:=Tryz.zeroValue0
 t3:=Tryz.underlying3
 a3:=Tryz.isAgg3
 z3:=Tryz.sizeOf3
 v3:=Tryz.zeroValue3
 t4:=Tryz.underlying4
 a4:=Tryz.isAgg4
 z4:=Tryz.sizeOf4
 v4:=Tryz.zeroValue4
 t5:=Tryz.underlying5
 a5:=Tryz.isAgg5
 z5:=Tryz.sizeOf5
 v5:=Tryz.zeroValue5
 t9:=Tryz.underlying9
 a9:=Tryz.isAgg9
 z9:=Tryz.sizeOf9
 v9:=Tryz.zeroValue9
 t22:=Tryz.underlying34
 a22:=Tryz.isAgg34
 z22:=Tryz.sizeOf34
 v22:=Tryz.zeroValue34
 t23:=Tryz.underlying34
 a23:=Tryz.isAgg34
 z23:=Tryz.sizeOf34
 v23:=Tryz.zeroValue34
 t25:=Tryz.underlying3
 a25:=Tryz.isAgg3
 z25:=Tryz.sizeOf3
 v25:=Tryz.zeroValue3
 t32:=Tryz.underlying317
 a32:=Tryz.isAgg317
 z32:=Tryz.sizeOf317
 v32:=Tryz.zeroValue317
 t35:=Tryz.underlying387
 a35:=Tryz.isAgg387
 z35:=Tryz.sizeOf387
 v35:=Tryz.zeroValue387
 t36:=Tryz.underlying388
 a36:=Tryz.isAgg388
 z36:=Tryz.sizeOf388
 v36:=Tryz.zeroValue388
 t41:=Tryz.underlying55
 a41:=Tryz.isAgg55
 z41:=Tryz.sizeOf55
 v41:=Tryz.zeroValue55
 t44:=Tryz.underlying394
 a44:=Tryz.isAgg394
 z44:=Tryz.sizeOf394
 v44:=Tryz.zeroValue394
 t46:=Tryz.underlying396
 a46:=Tryz.isAgg396
 z46:=Tryz.sizeOf396
 v46:=Tryz.zeroValue396
 t53:=Tryz.underlying450
 a53:=Tryz.isAgg450
 z53:=Tryz.sizeOf450
 v53:=Tryz.zeroValue450
 t57:=Tryz.underlying454
 a57:=Tryz.isAgg454
 z57:=Tryz.sizeOf454
 v57:=Tryz.zeroValue454
 t63:=Tryz.underlying486
 a63:=Tryz.isAgg486
 z63:=Tryz.sizeOf486
 v63:=Tryz.zeroValue486
 t64:=Tryz.underlying487
 a64:=Tryz.isAgg487
 z64:=Tryz.sizeOf487
 v64:=Tryz.zeroValue487}
def shKeys_ren:Go.Shelf.Ren:=⟨fun | 7=>169 | 10=>265 | n=>n,fun | 23=>88 | 26=>3 | 3=>3 | 28=>301 | 0=>0 | 27=>300 | 33=>295 | 4=>4 | n=>n,fun | n=>n⟩
theorem shKeys:Go.Proofs.SlLaysZI.n7 Tryz.prog shKeys_ren:={
 mixed:=by kernel_rfl
 f7:=⟨Tryz.f169.name,by decide,Tryz.func169.trans (congrArg some (by kernel_rfl))⟩
 f10:=⟨Tryz.f265.name,by decide,Tryz.func265.trans (congrArg some (by kernel_rfl))⟩
 t0:=Tryz.underlying0
 a0:=Tryz.isAgg0
 z0:=Tryz.sizeOf0
 v0:=Tryz.zeroValue0
 t4:=Tryz.underlying4
 a4:=Tryz.isAgg4
 z4:=Tryz.sizeOf4
 v4:=Tryz.zeroValue4
 t23:=Tryz.underlying88
 a23:=Tryz.isAgg88
 z23:=Tryz.sizeOf88
 v23:=Tryz.zeroValue88
 t26:=Tryz.underlying3
 a26:=Tryz.isAgg3
 z26:=Tryz.sizeOf3
 v26:=Tryz.zeroValue3
 t27:=Tryz.underlying300
 a27:=Tryz.isAgg300
 z27:=Tryz.sizeOf300
 v27:=Tryz.zeroValue300
 t28:=Tryz.underlying301
 a28:=Tryz.isAgg301
 z28:=Tryz.sizeOf301
 v28:=Tryz.zeroValue301
 t33:=Tryz.underlying295
 a33:=Tryz.isAgg295
 z33:=Tryz.sizeOf295
 v33:=Tryz.zeroValue295}
def shSorted_ren:Go.Shelf.Ren:=⟨fun | 6=>168 | 8=>264 | 9=>108 | 11=>341 | 13=>186 | 12=>185 | 23=>283 | 24=>284 | 14=>274 | 15=>275 | 16=>276 | 17=>277 | 18=>278 | 19=>279 | 20=>280 | 21=>281 | 22=>282 | 25=>352 | 26=>353 | 27=>354 | 28=>355 | 29=>356 | 30=>351 | 31=>396 | n=>n,fun | 26=>3 | 28=>301 | 24=>34 | 0=>0 | 3=>3 | 37=>317 | 48=>394 | 50=>396 | 4=>4 | 40=>388 | 39=>387 | 45=>55 | 5=>5 | 9=>9 | 51=>450 | 55=>454 | 57=>486 | 58=>487 | 33=>295 | n=>n,fun | n=>n⟩
theorem shSorted:Go.Proofs.SlLaysZI.n6 Tryz.prog shSorted_ren:={
 mixed:=by kernel_rfl
 f6:=⟨Tryz.f168.name,by decide,Tryz.func168.trans (congrArg some (by kernel_rfl))⟩
 f8:=⟨Tryz.f264.name,by decide,Tryz.func264.trans (congrArg some (by kernel_rfl))⟩
 f11:=⟨Tryz.f341.name,by decide,Tryz.func341.trans (congrArg some (by kernel_rfl))⟩
 t0:=Tryz.underlying0
 a0:=Tryz.isAgg0
 z0:=Tryz.sizeOf0
 v0:=Tryz.zeroValue0
 t24:=Tryz.underlying34
 a24:=Tryz.isAgg34
 z24:=Tryz.sizeOf34
 v24:=Tryz.zeroValue34
 t26:=Tryz.underlying3
 a26:=Tryz.isAgg3
 z26:=Tryz.sizeOf3
 v26:=Tryz.zeroValue3
 t28:=Tryz.underlying301
 a28:=Tryz.isAgg301
 z28:=Tryz.sizeOf301
 v28:=Tryz.zeroValue301
 i26:=by kernel_rfl}
def shCompact_ren:Go.Shelf.Ren:=⟨fun | 20=>109 | n=>n,fun | 22=>34 | 3=>3 | 4=>4 | 0=>0 | n=>n,fun | n=>n⟩
theorem shCompact:Go.Proofs.Lays2.n20 Tryz.prog shCompact_ren:={
 mixed:=by kernel_rfl
 f20:=Tryz.func109.trans (congrArg some (by kernel_rfl))
 t0:=Tryz.underlying0
 a0:=Tryz.isAgg0
 z0:=Tryz.sizeOf0
 v0:=Tryz.zeroValue0
 t3:=Tryz.underlying3
 a3:=Tryz.isAgg3
 z3:=Tryz.sizeOf3
 v3:=Tryz.zeroValue3
 t4:=Tryz.underlying4
 a4:=Tryz.isAgg4
 z4:=Tryz.sizeOf4
 v4:=Tryz.zeroValue4
 t22:=Tryz.underlying34
 a22:=Tryz.isAgg34
 z22:=Tryz.sizeOf34
 v22:=Tryz.zeroValue34
 i3:=by kernel_rfl}
end Go.Proofs.YtbjlfobjngogkaaGreatDoor
namespace Go.Proofs.YtbjlfobjngogkaaGreatDoor
open Go Go.RowKit Go.Sort
set_option synthInstance.maxSize 100000
set_option synthInstance.maxHeartbeats 1000000
set_option maxRecDepth 100000
@[reducible] def encI64:Enc Int 1:=⟨fun x=>[.int .i64 x],by omega,fun _=>rfl⟩
instance fdI64:FdI encI64 0 .i64 id:=⟨fun _=>rfl⟩
theorem enc_map (l:List Int):l.flatMap encI64.f=l.map (Value.int .i64):=by
 induction l with
 | nil=>rfl
 | cons x l ih=>rw [List.flatMap_cons,ih];rfl
theorem enters108:∃fn,Tryz.prog.funcs[108]? =some fn∧(fn.name == "runtime.NumGoroutine")=false∧fn.body.isNone=false:=⟨_,Tryz.func108,by kernel_rfl,by kernel_rfl⟩
theorem enters109:∃fn,Tryz.prog.funcs[109]? =some fn∧(fn.name == "runtime.NumGoroutine")=false∧fn.body.isNone=false:=⟨_,Tryz.func109,by kernel_rfl,by kernel_rfl⟩
theorem enters168:∃fn,Tryz.prog.funcs[168]? =some fn∧(fn.name == "runtime.NumGoroutine")=false∧fn.body.isNone=false:=⟨_,Tryz.func168,by kernel_rfl,by kernel_rfl⟩
theorem enters169:∃fn,Tryz.prog.funcs[169]? =some fn∧(fn.name == "runtime.NumGoroutine")=false∧fn.body.isNone=false:=⟨_,Tryz.func169,by kernel_rfl,by kernel_rfl⟩
theorem rd_get' {cs:St} {b:Nat} {c:List Value} {T:TypeId} {E w:World} (h:RdB cs b T c) (hw:Hs E w cs):∃z,w.heap[b]? =some (.cells ⟨c⟩ T z):=by obtain⟨z,hz⟩:=h.h;exact⟨z,hw.holds _ hz⟩
theorem put_cells {pre tail:List Value} {xs ys:List Int} (h:ys.length=xs.length):(putCells (Value.int .i64) pre.length ys.toArray ⟨pre++xs.map (Value.int .i64)++tail⟩).toList=pre++ys.map (Value.int .i64)++tail:=by
 unfold putCells
 apply List.ext_getElem?
 intro i
 simp only [Array.toList_mapIdx,List.getElem?_mapIdx,List.size_toArray]
 by_cases h1:i<pre.length
 ·rw [List.append_assoc,List.append_assoc,List.getElem?_append_left h1,List.getElem?_append_left h1]
  cases pre[i]? with
  | none=>rfl
  | some v=>rw [Option.map_some,if_neg (by omega)]
 ·by_cases h2:i<pre.length+ys.length
  ·have e1:(pre++xs.map (Value.int .i64)++tail)[i]? =some (.int .i64 xs[i-pre.length]):=by
    rw [List.append_assoc,List.getElem?_append_right (by omega),List.getElem?_append_left (by rw [List.length_map];omega),List.getElem?_map,List.getElem?_eq_getElem (by omega)];rfl
   have e2:(pre++ys.map (Value.int .i64)++tail)[i]? =some (.int .i64 ys[i-pre.length]):=by
    rw [List.append_assoc,List.getElem?_append_right (by omega),List.getElem?_append_left (by rw [List.length_map];omega),List.getElem?_map,List.getElem?_eq_getElem (by omega)];rfl
   rw [e1,e2,Option.map_some,if_pos (by omega)]
   have e3:ys.toArray[i-pre.length]! =ys[i-pre.length]:=by
    rw [getElem!_pos ys.toArray _ (by simp;omega)];simp
   rw [e3]
  ·have e1:(pre++xs.map (Value.int .i64)++tail)[i]? =tail[i-pre.length-xs.length]?:=by
    rw [List.append_assoc,List.getElem?_append_right (by omega),List.getElem?_append_right (by rw [List.length_map];omega),List.length_map]
   have e2:(pre++ys.map (Value.int .i64)++tail)[i]? =tail[i-pre.length-xs.length]?:=by
    rw [List.append_assoc,List.getElem?_append_right (by omega),List.getElem?_append_right (by rw [List.length_map];omega),List.length_map,h]
   rw [e1,e2]
   cases tail[i-pre.length-xs.length]? with
   | none=>rfl
   | some v=>rw [Option.map_some,if_neg (by omega)]
theorem holds_row {cs:St} {E w:World} {i b T:Nat} {pre tail:List Value} {xs:List Int} (hi:cs[i]? =some (bk b T (pre++xs.map (Value.int .i64)++tail))) (hw:Hs E w cs):Go.Sort.Holds (Value.int .i64) w b pre.length xs.toArray:=by
 intro j hj
 simp only [List.size_toArray]at hj
 refine⟨?_,hw.frozen hi (pre.length+j)⟩
 have:=hw.cell hi (o:=pre.length+j)
 rw [show(⟨b,pre.length+j,none⟩:Addr)=ad b (pre.length+j)from rfl,this,List.append_assoc,List.getElem?_append_right (by omega),Nat.add_sub_cancel_left,List.getElem?_append_left (by rw [List.length_map];exact hj),List.getElem?_map,List.getElem?_eq_getElem hj]
 rw [getElem!_pos xs.toArray _ (by simpa using hj)]
 simp
theorem hs_putRow {cs:St} {E w:World} {i b T k:Nat} {pre tail:List Value} {xs ys:List Int} {os:Array Obj} (hi:cs[i]? =some (bk b T (pre++xs.map (Value.int .i64)++tail))) (hw:Hs E w cs) (h:ys.length=xs.length):
  Hs E (grow (putRow (Value.int .i64) (Go.Sort.ahead w k) b pre.length ys.toArray) os) (cs.set i (bk b T (pre++ys.map (Value.int .i64)++tail))):=by
 have hb:=hw.block hi
 have hlt:b<w.heap.size:=by
  rcases Nat.lt_or_ge b w.heap.size with hh | hh
  ·exact hh
  ·rw [Array.getElem?_eq_none hh]at hb;cases hb
 refine hw.upd hi rfl rfl rfl ?_ ?_ (fun j hj hj2=> ?_)
 ·simp [grow,putRow,mapBlock,Go.Sort.ahead]
 ·simp only [grow,putRow,mapBlock,Go.Sort.ahead]
  rw [Array.getElem?_append_left (by simpa using hlt),Array.getElem?_modify,if_pos rfl,hb]
  simp only [Option.map_some,onCells]
  congr 1
  have:=put_cells (pre:=pre) (tail:=tail) h
  congr 1
  apply Array.ext'
  exact this
 ·simp only [grow,putRow,mapBlock,Go.Sort.ahead]
  rw [Array.getElem?_append_left (by simpa using hj2),Array.getElem?_modify,if_neg (fun e=>hj e.symm)]
section
variable {cs:St} {K:Value→SP} {a:Option Addr} {n c:Nat} {l:List Int} {ch:Chunk} {put:Chunk→St}
theorem c108t (r:Row 3 1 a n c encI64 l ch) (at_:ChAt cs ch put) (hn:n≤1000000000000) (h:∀ch',Row 3 1 a n c encI64 (l.mergeSort fun x y=>decide (x≤y)) ch'→K (.tuple ⟨[]⟩) (put ch')):fn 108 [.slice a n c] K cs:=by
 obtain⟨i,hi,hput⟩:=at_.h
 have hl:=r.len
 refine⟨enters108,fun E w hw=> ?_⟩
 rcases r.h.inv with ⟨h1,⟨a0,h2⟩,h3⟩ | ⟨b,cap,pre,tail,h1,h2,h3,h4,h5,h6⟩
 ·cases h2
  refine(AnyM.slices_Sort_int_none shSort a 0 w).mono ?_
  rintro e w' ⟨rfl,rfl⟩
  have e0:l=[]:=List.length_eq_zero_iff.1 hl.symm
  subst e0
  have:=h ch (by rw [List.mergeSort_nil];exact r)
  rw [hput,set_same hi]at this
  exact⟨_,cs,rfl,hw,this⟩
 ·cases h1
  rw [enc_map]at h2
  rw [h2]at hi
  subst hl
  have hbl:b<w.heap.size:=by
   have hb:=hw.block hi
   rcases Nat.lt_or_ge b w.heap.size with hh | hh
   ·exact hh
   ·rw [Array.getElem?_eq_none hh]at hb;cases hb
  refine(AnyM.slices_Sort_int shSort b pre.length c l w (holds_row hi hw) hbl (by omega)).mono ?_
  rintro e w' ⟨rfl,k,os,rfl⟩
  have hlen:(l.mergeSort fun x y=>decide (x≤y)).length=l.length:=List.length_mergeSort l
  refine⟨_,_,rfl,hs_putRow hi hw hlen,?_⟩
  rw [←hput]
  refine h _ ⟨?_⟩
  rw [enc_map]at h3 h4
  rw [←enc_map]
  have e1:((l.mergeSort fun x y=>decide (x≤y)).flatMap encI64.f).length=l.length*1:=by rw [encI64.flat_len,hlen]
  exact Sl.mk b l.length c pre _ tail e1 (by rw [e1];rw [List.length_map]at h4;omega) h5 h6
theorem c109t (r:Row 3 1 a n c encI64 l ch) (at_:ChAt cs ch put) (hn:n≤1000000000000) (h:∀n' ch',Row 3 1 a n' c encI64 (Lib.compact l) ch'→K (.slice a n' c) (put ch')):fn 109 [.slice a n c] K cs:=by
 obtain⟨i,hi,hput⟩:=at_.h
 have hl:=r.len
 refine⟨enters109,fun E w hw=> ?_⟩
 rcases r.h.inv with ⟨h1,⟨a0,h2⟩,h3⟩ | ⟨b,cap,pre,tail,h1,h2,h3,h4,h5,h6⟩
 ·cases h2
  refine(Any.slices_Compact_int_empty shCompact a 0 w).mono ?_
  rintro e w' ⟨rfl,rfl⟩
  have e0:l=[]:=List.length_eq_zero_iff.1 hl.symm
  subst e0
  have:=h 0 ch (by exact r)
  rw [hput,set_same hi]at this
  exact⟨_,cs,rfl,hw,this⟩
 ·cases h1
  rw [enc_map]at h2
  rw [h2]at hi
  subst hl
  refine(Any.slices_Compact_int shCompact b pre.length c l w (holds_row hi hw) (by omega) h5).mono ?_
  rintro e w' ⟨rfl,k,rfl⟩
  have hcl:(Lib.compact l).length≤l.length:=by
   unfold Lib.compact Lib.compactUpTo
   rw [List.length_map]
   exact Nat.le_trans (List.length_filter_le _ _) (by rw [List.length_range];exact Nat.le_refl _)
  have hlen:(Lib.compact l++List.replicate (l.length-(Lib.compact l).length) 0).length=l.length:=by rw [List.length_append,List.length_replicate];omega
  have hh:=hs_putRow (k:=k) (os:= #[]) hi hw hlen
  rw [grow_empty]at hh
  refine⟨_,_,rfl,hh,?_⟩
  rw [←hput]
  refine h _ _ ⟨?_⟩
  rw [enc_map]at h3 h4
  rw [List.map_append,←List.append_assoc,←enc_map (Lib.compact l),List.append_assoc (pre++_)]
  have e1:((Lib.compact l).flatMap encI64.f).length=(Lib.compact l).length*1:=encI64.flat_len _
  refine Sl.mk b (Lib.compact l).length c pre _ _ e1 ?_ (by omega) h6
  rw [e1]
  rw [List.length_map]at h4
  simp only [List.length_append,List.length_map,List.length_replicate]
  omega
instance c169 {r:Nat}:Go1 (fn 169 [.map (some r)] K cs) (∀q,K (.func (.func 265) ⟨[]⟩ ⟨[.pointer (some (ad q 0))]⟩) (bk q 88 [.map (some r)]::cs)):=⟨fun h=>⟨enters169,fun E w hw=>by
 have hk:=(callsIn_wide (n:=5)).1 (AnyZI.keys_in shKeys Fence.wide 5 trivial rfl (some r) w)
 refine Calls.mono (R:=fun e w'=>e= .returned (.func (.func 265) #[] #[.pointer (some ⟨w.heap.size,0,none⟩)])∧w'=w.alloc (.cells #[.map (some r)] 88)) hk ?_
 rintro e w' ⟨rfl,rfl⟩
 exact⟨_,_,rfl,hw.alloc _,h w.heap.size⟩⟩⟩
theorem shSorts (m:Nat):AnyZI.SortsIn Tryz.prog shSorted_ren Fence.wide m:=
 ⟨fun blk off cap ss W hH hblk hsz=>callsIn_wide.2 (AnyM.slices_Sort_int shSort blk off cap ss W hH hblk hsz),fun p cap W=>callsIn_wide.2 (AnyM.slices_Sort_int_none shSort p cap W)⟩
abbrev anyR:Value→Option (DataW Unit×List MemPlace):=fun _=>some (.nil,[])
theorem rg_key {a:Int} {v:Value} {x:MapEntry} (hx:x.key= .int .i64 a) (ha:0≤a∧a<9223372036854775808):WideElems.rd Tryz.prog 3 anyR x=some (.int .i64 a,.nil):=by
 have hw:(Lit.int .i64 a).wf=true:=by
  simp only [Lit.wf,Bool.and_eq_true,decide_eq_true_eq]
  have e1:IntKind.min .i64= -9223372036854775808:=by decide
  have e2:IntKind.max .i64=9223372036854775807:=by decide
  rw [e1,e2];omega
 unfold WideElems.rd
 rw [hx,Maps.keyOf_int_mk Tryz.underlying3 hw]
 rfl
theorem keys_own {r:Nat} {M:Mp mvI} {E w:World} {i:Nat} (hi:cs[i]? =some (mpC mvI r M)) (hw:Hs E w cs) (hk:∀p∈M.l,0≤p.1∧p.1<9223372036854775808) (hn:M.l.length≤1000000000):
  ∃D0:DataW Unit,w.ownsMap Tryz.prog 3 anyR r M.l.length D0∧(intKeys D0).Perm (M.l.map Prod.fst)∧Maps.size D0=M.l.length:=by
 have hb:=hw.map hi
 have hm:=M.is
 have hkeys:M.es.toList.map (fun x=>x.key)=M.l.map fun p=>Value.int .i64 p.1:=by
  have:=congrArg (List.map Prod.fst) hm.eq
  simpa [List.map_map,Function.comp_def]using this
 have hsz:M.es.size=M.l.length:=by
  have:=congrArg List.length hkeys
  simpa using this
 have hrd:∀x∈M.es.toList,∃a,x.key= .int .i64 a∧WideElems.rd Tryz.prog 3 anyR x=some (.int .i64 a,.nil):=by
  intro x hx
  have h1:x.key∈M.es.toList.map (fun x=>x.key):=List.mem_map.2 ⟨x,hx,rfl⟩
  rw [hkeys]at h1
  obtain⟨p,hp,e⟩:=List.mem_map.1 h1
  exact⟨p.1,e.symm,rg_key (v:= .nilIface) e.symm (hk p hp)⟩
 refine⟨.map ((M.es.toList.map (WideElems.rg Tryz.prog 3 anyR)).foldr DataW.insert []),⟨M.es,M.clk,hb,⟨by rw [hsz];exact Nat.le_trans hn (by decide),hm.st,fun x hx=> ?_⟩,by rw [hsz];exact Nat.le_refl _,rfl⟩,?_,?_⟩
 ·obtain⟨a,_,h2⟩:=hrd x hx
  exact⟨_,h2⟩
 ·unfold intKeys
  dsimp only
  refine((WideShapes.sorted_perm _).map _).trans ?_
  rw [List.map_map]
  have e:M.es.toList.map ((fun p:Lit×DataW Unit=>Go.intOf p.1) ∘ WideElems.rg Tryz.prog 3 anyR)=M.l.map Prod.fst:=by
   have e2:M.es.toList.map ((fun p:Lit×DataW Unit=>Go.intOf p.1) ∘ WideElems.rg Tryz.prog 3 anyR)=(M.es.toList.map fun x=>x.key).map (fun v=>match v with | .int _ a=>a | _=>0):=by
    rw [List.map_map]
    refine List.map_congr_left fun x hx=> ?_
    obtain⟨a,h1,h2⟩:=hrd x hx
    simp only [Function.comp,WideElems.rg,h2,h1,Option.getD,Go.intOf]
   rw [e2,hkeys,List.map_map]
   rfl
  rw [e]
 ·show(List.foldr DataW.insert [] _).length=_
  rw [(WideShapes.sorted_perm _).length_eq,List.length_map,Array.length_toList,hsz]
theorem c168t {q r:Nat} {M:Mp mvI} {i:Nat} (rq:RdB cs q 88 [.map (some r)]) (hi:cs[i]? =some (mpC mvI r M)) (hk:∀p∈M.l,0≤p.1∧p.1<9223372036854775808) (hn:M.l.length≤1000000000)
  (h:∀a n c ch (ss:List Int),ss.Perm (M.l.map Prod.fst)→Row 3 1 a n c encI64 (ss.mergeSort fun x y=>decide (x≤y)) ch→K (.slice a n c) (ch::cs)):fn 168 [.func (.func 265) ⟨[]⟩ ⟨[.pointer (some (ad q 0))]⟩] K cs:=⟨enters168,fun E w hw=>by
 obtain⟨D0,hown,hperm,hsize⟩:=keys_own hi hw hk hn
 obtain⟨z0,hq⟩:=rd_get' rq hw
 have hql:q<w.heap.size:=by
  rcases Nat.lt_or_ge q w.heap.size with hh | hh
  ·exact hh
  ·rw [Array.getElem?_eq_none hh]at hq;cases hq
 have hseq:SeqGives Fence.wide 2 Tryz.prog 265 #[.pointer (some ⟨q,0,none⟩)] encZ (fun ss=>ss.Perm (intKeys D0)) (Maps.size D0) w:=
  AnyZI.keys_gives (ρ:=shKeys_ren) {shKeys with} Fence.wide _ trivial rfl (by omega) q r M.l.length D0 _ hql (by
   show w.cell? (ad q 0)=_
   rw [rq.h.cell hw];rfl) hown
 have cS:=AnyZI.sorted_in shSorted Fence.wide 5 trivial trivial trivial trivial rfl (by omega) (shSorts _) (enters_of Tryz.func108 (by kernel_rfl) rfl) 265 #[.pointer (some ⟨q,0,none⟩)] trivial (enters_of Tryz.func265 (by kernel_rfl) rfl) _ _ (by rw [hsize];exact Nat.le_trans hn (by decide)) (by rw [hsize];omega) _ hseq
 change CallsIn _ _ Tryz.prog 168 _ _ _ at cS
 refine Calls.mono (callsIn_wide.1 cS) ?_
 rintro e w' ⟨v,ss,rfl,hS,hrow,hnil,hb⟩
 have hlt:∀x∈cs.flatten,x.1<w.heap.size:=fun x hx=>by
  have h3:=hw.holds x hx
  rcases Nat.lt_or_ge x.1 w.heap.size with hh | hh
  ·exact hh
  ·rw [Array.getElem?_eq_none hh]at h3;cases h3
 have hbase:Hs E w' cs:=⟨hb.os.trans hw.os,hb.output.trans hw.out,hb.tape.trans hw.tape,Nat.le_trans hw.size hb.size,fun x hx=>by rw [hb.block x.1 (hlt x hx)];exact hw.holds x hx,hw.nodup⟩
 have hP:=hS.trans hperm
 have hml:(ss.mergeSort fun x y=>decide (x≤y)).length=ss.length:=List.length_mergeSort ss
 rcases hrow.2 with ⟨rfl,hz⟩ | ⟨g,cap,cur,rfl,hgb,g1,g2,g3,g4,g5⟩
 ·have hss:ss=[]:=List.eq_nil_of_length_eq_zero hz
  subst hss
  have:=h none 0 0 [] [] hP ⟨by rw [List.mergeSort_nil];exact Sl.nil⟩
  exact⟨_,[]::cs,rfl,⟨hbase.os,hbase.out,hbase.tape,hbase.size,by simpa using hbase.holds,by simpa using hbase.nodup⟩,this⟩
 ·refine⟨_,bk g 3 cur.toList::cs,rfl,⟨hbase.os,hbase.out,hbase.tape,hbase.size,fun x hx=> ?_,?_⟩,h _ _ _ _ ss hP ⟨?_⟩⟩
  ·simp only [List.flatten_cons,List.mem_append,bk,List.mem_singleton]at hx
   rcases hx with rfl | hx
   ·exact g1
   ·exact hbase.holds x hx
  ·simp only [List.flatten_cons,bk,List.cons_append,List.nil_append,List.map_cons,List.nodup_cons]
   refine⟨fun hm=> ?_,hbase.nodup⟩
   obtain⟨x,hx,e⟩:=List.mem_map.1 hm
   have:=hlt x hx
   omega
  ·have e1:(ss.mergeSort fun x y=>decide (x≤y)).flatMap encI64.f=cur.toList.take (ss.length*1):=by rw [enc_map,g5]
   rw [e1]
   have e2:cur.toList=[]++cur.toList.take (ss.length*1)++cur.toList.drop (ss.length*1):=by rw [List.nil_append,List.take_append_drop]
   have hl1:(cur.toList.take (ss.length*1)).length=ss.length*1:=by simp only [List.length_take,Array.length_toList,g4];omega
   have hl2:(cur.toList.drop (ss.length*1)).length=cap*1-ss.length*1:=by simp only [List.length_drop,Array.length_toList,g4]
   have:=Sl.mk (T:=3) (sz:=1) g ss.length cap [] (cur.toList.take (ss.length*1)) (cur.toList.drop (ss.length*1)) hl1 (by rw [hl1,hl2];omega) g2 (Nat.le_trans g3 (by decide))
   rw [←e2]at this
   exact this⟩
end
end Go.Proofs.YtbjlfobjngogkaaGreatDoor
namespace Go.Proofs.YtbjlfobjngogkaaGreatDoor
open Go
set_option synthInstance.maxSize 100000
set_option synthInstance.maxHeartbeats 1000000
set_option maxRecDepth 100000
theorem Ob.fnf {X:Type} {C:Nat→X→Chunk} {cs:St} {b:Nat} {x:X} {put:Chunk→St} (o:Ob C cs b x put) {g:FuncId} {args:List Value} {K:Value→SP} (parts:St) (hp:parts.flatten=C b x)
  (h:∀F,Go.Proofs.YtbjlfobjngogkaaGreatDoor.fn g args (fun v c=>∃front parts',Imp c (front++(parts'++F))∧K v (front++put parts'.flatten)) (parts++F)):Go.Proofs.YtbjlfobjngogkaaGreatDoor.fn g args K cs:=by
 obtain⟨i,h1,h2⟩:=o.h
 refine fn_focus i parts (by rw [hp];exact h1) ?_
 refine fn_weak (fun v c ⟨front,q1,h3,h4⟩=>⟨front,q1,h3,?_⟩) (h (cs.set i []))
 rw [h2]at h4
 exact h4
theorem sorted_eq:∀(l m:List Int),l.Perm m→l.Pairwise (·≤·)→m.Pairwise (·≤·)→l=m
 | [],m,hp,_,_=>(List.nil_perm.1 hp).symm
 | a::l,m,hp,h1,h2=>by
  cases m with
  | nil=>exact absurd hp.length_eq (by simp)
  | cons b m=>
   rw [List.pairwise_cons]at h1 h2
   have e:a=b:=by
    have ha:a∈b::m:=hp.mem_iff.1 List.mem_cons_self
    have hb:b∈a::l:=hp.mem_iff.2 List.mem_cons_self
    rcases List.mem_cons.1 ha with e | ha
    ·exact e
    ·rcases List.mem_cons.1 hb with e | hb
     ·exact e.symm
     ·have:=h2.1 a ha;have:=h1.1 b hb;omega
   subst e
   rw [sorted_eq l m (List.Perm.cons_inv hp) h1.2 h2.2]
theorem insertI_mem (x y:Int):∀l:List Int,y∈insertI x l→y=x∨y∈l
 | [],h=>by simp [insertI]at h;exact .inl h
 | z::l,h=>by
  unfold insertI at h
  split at h
  ·rcases List.mem_cons.1 h with e | h
   ·exact .inl e
   ·exact .inr h
  ·rcases List.mem_cons.1 h with e | h
   ·exact .inr (by simp [e])
   ·rcases insertI_mem x y l h with e | h
    ·exact .inl e
    ·exact .inr (List.mem_cons_of_mem _ h)
theorem insertI_sorted (x:Int):∀l:List Int,l.Pairwise (·≤·)→(insertI x l).Pairwise (·≤·)
 | [],_=>by simp [insertI]
 | y::l,h=>by
  unfold insertI
  split
  ·rename_i c
   rw [List.pairwise_cons]
   refine⟨fun z hz=> ?_,h⟩
   rcases List.mem_cons.1 hz with e | hz
   ·omega
   ·have:=(List.pairwise_cons.1 h).1 z hz;omega
  ·rename_i c
   rw [List.pairwise_cons]at h ⊢
   refine⟨fun z hz=> ?_,insertI_sorted x l h.2⟩
   rcases insertI_mem x z l hz with e | hz
   ·omega
   ·exact h.1 z hz
theorem sortI_sorted:∀l:List Int,(sortI l).Pairwise (·≤·)
 | []=>List.Pairwise.nil
 | x::l=>insertI_sorted x _ (sortI_sorted l)
theorem insertI_perm' (x:Int):∀l:List Int,(insertI x l).Perm (x::l)
 | []=>List.Perm.refl _
 | y::l=>by
  unfold insertI
  split
  ·exact List.Perm.refl _
  ·exact((insertI_perm' x l).cons y).trans (List.Perm.swap _ _ _)
theorem sortI_perm':∀l:List Int,(sortI l).Perm l
 | []=>List.Perm.refl _
 | x::l=>(insertI_perm' x _).trans ((sortI_perm' l).cons x)
theorem merge_sorted (l:List Int):(l.mergeSort fun x y=>decide (x≤y)).Pairwise (·≤·):=by
 have:=List.pairwise_mergeSort (le:=fun(x y:Int)=>decide (x≤y)) (fun a b c h1 h2=>by simp at *;omega) (fun a b=>by simp;omega) l
 exact this.imp fun h=>by simpa using h
theorem live_eq (x:SlX) {ss:List Int} (hp:ss.Perm (x.M.l.map Prod.fst)):(ss.mergeSort fun a b=>decide (a≤b))=x.m.live:=by
 refine sorted_eq _ _ ?_ (merge_sorted ss) (sortI_sorted _)
 refine(List.mergeSort_perm ss _).trans (hp.trans (List.Perm.trans ?_ (sortI_perm' _).symm))
 have nd2:(x.who.filter fun a=>a != -1).Nodup:=by
  have key:∀l:List Int,(∀i j:Nat,∀a,l[i]? =some a→l[j]? =some a→a≠-1→i=j)→(l.filter fun a=>a != -1).Nodup:=by
   intro l
   induction l with
   | nil=>intro _;exact List.nodup_nil
   | cons a l ih=>
    intro hh
    have ihl:=ih fun i j b h1 h2 hb=>by
     have:=hh (i+1) (j+1) b (by simpa using h1) (by simpa using h2) hb;omega
    rw [List.filter_cons]
    split
    ·rename_i c
     rw [List.nodup_cons]
     refine⟨fun hm=> ?_,ihl⟩
     have hm:=(List.mem_filter.1 hm).1
     obtain⟨j,hj,e⟩:=List.mem_iff_getElem.1 hm
     have:=hh 0 (j+1) a rfl (by rw [List.getElem?_cons_succ,List.getElem?_eq_getElem hj,e]) (by simpa using c)
     omega
    ·exact ihl
  refine key x.who fun i j a h1 h2 ha=> ?_
  have d1:x.who.getD i 0=a:=by rw [List.getD_eq_getElem?_getD,h1];rfl
  have d2:x.who.getD j 0=a:=by rw [List.getD_eq_getElem?_getD,h2];rfl
  have e1:=x.at1 i (lt_of_get h1) (by rw [d1];exact ha)
  have e2:=x.at1 j (lt_of_get h2) (by rw [d2];exact ha)
  rw [d1]at e1;rw [d2]at e2;rw [e1]at e2
  have:=Option.some.inj e2
  omega
 refine(List.perm_ext_iff_of_nodup x.nd nd2).2 fun a=>⟨fun h=> ?_,fun h=> ?_⟩
 ·obtain⟨p,hp,e⟩:=List.mem_map.1 h
  have hg:=iget_of_mem x.nd (k:=p.1) (x:=p.2) hp
  obtain⟨a1,a2,a3⟩:=x.at2 _ _ hg
  have ai:=(x.hid _ _ hg).1
  have hl:p.2.toNat<x.who.length:=by omega
  rw [List.mem_filter]
  rw [←e]
  refine⟨?_,by simp;omega⟩
  rw [←a3,List.getD_eq_getElem?_getD,List.getElem?_eq_getElem hl]
  exact List.getElem_mem hl
 ·obtain⟨h1,h2⟩:=List.mem_filter.1 h
  obtain⟨j,hj,e⟩:=List.mem_iff_getElem.1 h1
  have d1:x.who.getD j 0=a:=by rw [List.getD_eq_getElem?_getD,List.getElem?_eq_getElem hj];exact e
  have e1:=x.at1 j hj (by rw [d1];simpa using h2)
  rw [d1]at e1
  exact List.mem_map.2 ⟨_,iget_mem e1,rfl⟩
instance c98 {cs:St} {b:Nat} {x:SlX} {put:Chunk→St} {K:Value→SP} [o:Ob slotsC cs b x put]:Go1 (fn 98 [.pointer (some (ad b 0))] K cs) (∀a n c ch,Row 3 1 a n c encI64 x.m.live ch→K (.slice a n c) (ch::cs)):=⟨fun h=>o.fnf [slP b x,bk x.bw 3 (List.map (Value.int .i64) x.who),mpC mvI x.bm x.M] (by simp [slotsC]) fun F=>f98 (by
 have hs:=o.same
 have hh1:=x.h1
 have hcn:=x.cnt
 unfold s98
 simp only [List.cons_append,List.nil_append]
 refine go fun q=> ?_
 refine c168t (r:=x.bm) (M:=x.M) (i:=3) inferInstance rfl (fun p hp=> ?_) (by omega) fun a n c ch ss hp r=> ?_
 ·have hg:=iget_of_mem x.nd (k:=p.1) (x:=p.2) hp
  have h1:=x.hid _ _ hg
  have h2:=x.hn
  omega
 ·rw [live_eq x hp]at r
  refine go ⟨[ch],[slP b x,bk x.bw 3 (List.map (Value.int .i64) x.who),mpC mvI x.bm x.M],?_,?_⟩
  ·simp only [List.cons_append,List.nil_append];exact drp
  ·have e:[slP b x,bk x.bw 3 (List.map (Value.int .i64) x.who),mpC mvI x.bm x.M].flatten=slotsC b x:=by simp [slotsC]
   rw [e,hs]
   exact h a n c ch r)⟩
theorem perm3 (s A B:Chunk):(A++(s++B)).Perm (s++(A++B)):=by
 rw [←List.append_assoc,←List.append_assoc]
 exact List.Perm.append_right _ List.perm_append_comm
theorem seats_fill {l:List (Option SeatH)} {k:Nat} (h:l[k]? =some none) (s:SeatH):(seatsC (l.set k (some s))).Perm (seatC s++seatsC l):=by
 have hl:=lt_of_get h
 have e1:seatsC (l.set k (some s))=seatsC (l.take k)++(seatC s++seatsC (l.drop (k+1))):=by
  rw [List.set_eq_take_append_cons_drop,if_pos hl]
  simp [seatsC,soC]
 have e2:seatsC l=seatsC (l.take k)++seatsC (l.drop (k+1)):=by
  have:l.set k none=l:=by
   apply List.ext_getElem?;intro i
   rw [List.getElem?_set];split
   ·rename_i hi;subst hi;exact h.symm
   ·rfl
  have e3:=seats_none hl
  rw [this]at e3
  exact e3
 rw [e1,e2]
 exact perm3 _ _ _
theorem seats_fill_imp {l:List (Option SeatH)} {k:Nat} (h:l[k]? =some none) (s:SeatH) {F:St}:Imp (seatC s::seatsC l::F) (seatsC (l.set k (some s))::F):=Imp.of_sub (l:=[]) (by
 simp only [List.flatten_cons,List.append_nil]
 rw [←List.append_assoc]
 exact List.Perm.append_right _ (seats_fill h s))
theorem En.free_get (x:En) (h:x.m.slots.free≠0):x.seats[x.m.slots.first]? =some none:=by
 obtain⟨f1,f2⟩:=first_free h
 rw [x.ok.l2]at f1
 have h1:x.m.seats[x.m.slots.first]? =some none:=by
  rw [←x.ok.w,List.getElem?_map]at f2
  cases hs:x.m.seats[x.m.slots.first]? with
  | none=>rw [hs]at f2;simp at f2
  | some o=>cases o with
   | none=>rfl
   | some y=>
    rw [hs]at f2
    have:=(x.ok.nx _ _ (seat_get.2 hs)).1
    simp [seatId]at f2;omega
 rw [←x.r4,List.getElem?_map]at h1
 cases hs:x.seats[x.m.slots.first]? with
 | none=>rw [hs]at h1;simp at h1
 | some o=>cases o with
  | none=>rfl
  | some y=>rw [hs]at h1;simp at h1
section
variable {cs:St} {b:Nat} {x:En} {put:Chunk→St} {K:Value→SP}
instance c146 [o:Ob engC cs b x put] {n:Int}:Go1 (fn 146 [.pointer (some (ad b 0)),.int .i64 n] K cs) (K (.int .i64 (x.m.refused n)) cs):=⟨fun h=>o.fn (eParts b x) rfl fun F=>f146 (by
 have dk:∀{c:St} {t:Int},t=x.m.refused n→Imp c (eParts b x++F)→∃parts',Imp c (parts'++F)∧K (.int .i64 t) (put parts'.flatten):=fun e hi=>eKeep o (e▸h) hi
 obtain⟨L,h2,h3,h4⟩:=x.scs.r.h
 have hn:=h2.len
 have hl:x.m.scripts.length=x.scs.n:=by rw [←x.r0,←h3,List.length_map,hn]
 have hsub:∀(G:St),∀z∈([x.scs.ch]:St).flatten,z∈(bk b 174 (eCells x)::x.scs.ch::G).flatten:=fun G z hz=>by
  simp only [List.flatten_cons,List.flatten_nil,List.append_nil,List.mem_append]at hz ⊢
  exact .inr (.inl hz)
 simp only [eParts,List.cons_append,List.nil_append]at dk ⊢
 have rw1:Rw 45 4 (bk b 174 (eCells x)::x.scs.ch::slotsC x.slb x.slx::x.srch::turnsC x.tb x.tx::hpC x.hb x.hx::mpC mvI x.mr x.M::x.och::seatsC x.seats::F) x.scs.a x.scs.n x.scs.c encPr L:=⟨h2.sub (hsub _)⟩
 unfold s146
 unfold Eng.refused at dk
 refine go ?_
 simp only [decide_eq_true_eq,decide_eq_false_iff_not,ge_iff_le]
 refine⟨fun c1=>dk (by rw [if_pos (.inl c1)]) (Imp.refl _),fun c1=>⟨fun c2=>dk (by rw [if_pos (.inr (by omega))]) (Imp.refl _),fun c2=>⟨by omega,fun y hy=> ?_⟩⟩⟩
 have hyp:x.m.scripts[n.toNat]? =some y.1:=by rw [←x.r0,←h3,List.getElem?_map,hy];rfl
 have hyd:x.m.scripts.getD n.toNat PrM.zero=y.1:=by rw [List.getD_eq_getElem?_getD,hyp];rfl
 rw [if_neg (by omega),hyd]at dk
 have rp:PrR (bk b 174 (eCells x)::x.scs.ch::slotsC x.slb x.slx::x.srch::turnsC x.tb x.tx::hpC x.hb x.hx::mpC mvI x.mr x.M::x.och::seatsC x.seats::F) (prCells y.1 y.2.1 y.2.2.1 y.2.2.2) y.1:=(h4 y (List.mem_of_getElem? hy)).sub (hsub _)
 have e1:x.slx.next=x.m.slots.next:=by rw [←x.r1]
 have e2:x.slx.m.free=x.m.slots.free:=by rw [x.r1]
 refine go ⟨x.ok.sc _ (List.mem_of_getElem? hyp),?_⟩
 simp only [decide_eq_true_eq,decide_eq_false_iff_not,Bool.not_eq_true',Bool.not_eq_false',beq_iff_eq,beq_eq_false_iff_ne,ne_eq,ge_iff_le]
 refine⟨fun c3=>dk (by rw [if_pos c3]) (Imp.refl _),fun c3=>⟨fun c4=>dk (by rw [if_neg (by simp [c3]),if_pos c4]) (Imp.refl _),fun c4=>⟨fun c5=>dk ?_ (Imp.refl _),fun c5=>⟨fun c6=>dk ?_ (Imp.refl _),fun c6=>dk ?_ (Imp.refl _)⟩⟩⟩⟩
 ·rw [if_neg (by simp [c3]),if_neg (by simp [c4]),if_pos (by omega)]
 ·rw [if_neg (by simp [c3]),if_neg (by simp [c4]),if_neg (by omega),if_pos (by omega)]
 ·rw [if_neg (by simp [c3]),if_neg (by simp [c4]),if_neg (by omega),if_neg (by omega)])⟩
instance c88 [o:Ob engC cs b x put] {n:Int}:Go1 (fn 88 [.pointer (some (ad b 0)),.int .i64 n] K cs) (x.m.out.length<1000000000000∧∀x',En.m x'=x.m.open n→K undef (put (engC b x'))):=⟨fun⟨hl,h⟩=>o.fn (eParts b x) rfl fun F=>f88 (by
 obtain⟨L,h2,h3,h4⟩:=x.scs.r.h
 have hn:=h2.len
 have hln:x.m.scripts.length=x.scs.n:=by rw [←x.r0,←h3,List.length_map,hn]
 unfold s88
 refine fn_imp eShut ?_
 refine go ⟨fun c1=> ?_,fun c1=> ?_⟩
 ·have hr:x.m.refused n≠0:=by simpa using c1
  have hop:x.m.open n={x.m with slots:=x.m.slots.skip,out:=x.m.out++[evRefuse x.m.slots.skipped n (x.m.refused n)]}:=by unfold Eng.open;rw [if_pos hr]
  have hok:=skip_ok x.ok (evRefuse x.m.slots.skipped n (x.m.refused n))
  refine fn_imp (cs':=eParts b x++F) eLay ?_
  simp only [eParts,List.cons_append,List.nil_append]
  refine go fun sl' g1 g2=> ?_
  have e1:sl'.m=x.m.slots.skip:=by rw [g1,x.r1]
  have e2:x.slx.m.skipped=x.m.slots.skipped:=by rw [x.r1]
  rw [e2]
  let x1:En:={x with m:={x.m with slots:=x.m.slots.skip},slx:=sl',r1:=e1,ok:={hok with}}
  refine fn_imp (cs':=engC b x1::F) (Imp.trans (by dsimp only [eParts,eCells,x1,List.cons_append,List.nil_append];exact drp) (eShut (x:=x1))) ?_
  refine go ⟨hl,fun x2 hx2 _=> ?_⟩
  refine eDone x2 (Imp.refl _) (h x2 ?_)
  rw [hx2,hop];rfl
 ·have hr:x.m.refused n=0:=by simpa using c1
  obtain⟨r1,r2,r3,r4,r5⟩:=refused_facts hr
  have hok:=open_pre x.ok hr
  have hfr:=x.free_get r5
  have hop:x.m.open n=({x.m with slots:=x.m.slots.open,seats:=x.m.seats.set x.m.slots.first (some ⟨x.m.slots.next,Dia.new x.m.s (x.m.scripts.getD n.toNat PrM.zero) x.m.clock,[],false⟩),out:=x.m.out++[evOpen x.m.slots.next n]}:Eng).settle x.m.slots.first:=by unfold Eng.open;rw [if_neg (by simp [hr])]
  refine fn_imp (cs':=eParts b x++F) eLay ?_
  simp only [eParts,List.cons_append,List.nil_append]
  have e3:x.slx.next=x.m.slots.next:=by rw [←x.r1]
  have e4:x.slx.who=x.m.slots.who:=by rw [←x.r1]
  have e5:x.slx.m.first=x.m.slots.first:=by rw [x.r1]
  have hmem:(-1:Int)∈x.slx.who:=by rw [e4];exact List.mem_of_getElem? (first_free r5).2
  have hsub:∀(A:Chunk) (G:St),∀z∈([x.scs.ch]:St).flatten,z∈(A::x.scs.ch::G).flatten:=fun A G z hz=>by
   simp only [List.flatten_cons,List.flatten_nil,List.append_nil,List.mem_append]at hz ⊢
   exact .inr (.inl hz)
  have hr1:=x.srow
  have hn1:=x.srow.len
  rw [List.length_map]at hn1
  have hfl:=lt_of_get hfr
  have hcl:=x.ok.c1
  refine go ⟨⟨by rw [e3];exact r4,hmem⟩,fun sl' g1 g2=> ?_⟩
  have e6:sl'.m=x.m.slots.open:=by rw [g1,x.r1]
  have rw1:Rw 45 4 (bk b 174 (eCells x)::x.scs.ch::slotsC x.slb sl'::x.srch::turnsC x.tb x.tx::hpC x.hb x.hx::mpC mvI x.mr x.M::x.och::seatsC x.seats::F) x.scs.a x.scs.n x.scs.c encPr L:=⟨h2.sub (hsub _ _)⟩
  refine go ⟨⟨by omega,by omega⟩,fun y hy=> ?_⟩
  have hyp:x.m.scripts[n.toNat]? =some y.1:=by rw [←x.r0,←h3,List.getElem?_map,hy];rfl
  have hyd:x.m.scripts.getD n.toNat PrM.zero=y.1:=by rw [List.getD_eq_getElem?_getD,hyp];rfl
  rw [hyd]at r2 hok hop
  have rp:PrR (bk b 174 (eCells x)::x.scs.ch::slotsC x.slb sl'::x.srch::turnsC x.tb x.tx::hpC x.hb x.hx::mpC mvI x.mr x.M::x.och::seatsC x.seats::F) (prCells y.1 y.2.1 y.2.2.1 y.2.2.2) y.1:=(h4 y (List.mem_of_getElem? hy)).sub (hsub _ _)
  have hfit:=x.ok.sc _ (List.mem_of_getElem? hyp)
  refine go ⟨⟨x.ok.sg,r2,hfit,by omega⟩,fun db dl hdl=> ?_⟩
  rw [e5]
  refine go fun wb wi w1 w2 sb=>⟨⟨by omega,by omega⟩,some (ad sb 0),rfl,fun ch' r' M1 hM1=> ?_⟩
  rw [e3]
  rw [Int.toNat_natCast]at r'
  let s0:SeatH:=⟨x.m.slots.next,sb,db,wb,dl,wi⟩
  have hs0:s0.m=⟨x.m.slots.next,Dia.new x.m.s y.1 x.m.clock,[],false⟩:=by
   show(⟨x.m.slots.next,dl.d,wi.q,wi.eof⟩:Seat)=_
   rw [hdl,w1,w2]
  rw [←hs0]at hok hop
  have emap:(x.seats.set x.m.slots.first (some s0)).map ptrS=(x.seats.map ptrS).set x.m.slots.first (some (ad sb 0)):=by rw [List.map_set];rfl
  let x1:En:={x with m:={x.m with slots:=x.m.slots.open,seats:=x.m.seats.set x.m.slots.first (some s0.m)},slx:=sl',srch:=ch',seats:=x.seats.set x.m.slots.first (some s0),M:=M1,srow:=by rw [emap];exact r',r1:=e6,r4:=by simp only [List.map_set,x.r4];rfl,ok:={hok with}}
  have hsc:Imp (bk sb 197 [.int .i64 x.m.slots.next,.pointer (some (ad db 0)),.pointer (some (ad wb 0))]::wireC wb wi::dialC db dl::bk b 174 (eCells x)::x.scs.ch::slotsC x.slb sl'::ch'::turnsC x.tb x.tx::hpC x.hb x.hx::mpC mvI x.mr M1::x.och::seatsC x.seats::F) (seatC s0::seatsC x.seats::bk b 174 (eCells x)::x.scs.ch::slotsC x.slb sl'::ch'::turnsC x.tb x.tx::hpC x.hb x.hx::mpC mvI x.mr M1::x.och::F):=by
   unfold seatC;exact drp
  refine fn_imp (cs':=engC b x1::F) (Imp.trans (hsc.trans (seats_fill_imp hfr s0)) (Imp.trans (by dsimp only [eParts,eCells,x1,List.cons_append,List.nil_append];exact drp) (eShut (x:=x1)))) ?_
  refine go ⟨hl,fun x2 hx2 hs2=> ?_⟩
  have hg2:x2.seats[x.m.slots.first]? =some (some s0):=by rw [hs2];show(x.seats.set _ _)[_]? =_;simp [hfl]
  refine go ⟨⟨by omega,s0,by rw [Int.toNat_natCast];exact hg2⟩,fun x3 hx3 _=> ?_⟩
  rw [Int.toNat_natCast]at hx3
  refine eDone x3 (Imp.refl _) (h x3 ?_)
  rw [hx3,hx2,hop];rfl)⟩
instance c90 [o:Ob engC cs b x put] {id:Int} {s:ByteArray} {e:Bool}:Go1 (fn 90 [.pointer (some (ad b 0)),.agg ⟨[.int .i64 id,.string s,.bool e]⟩] K cs) ((∀k y,x.m.seat k=some y→y.q.length≤1000000000000)∧∀x',En.m x'=x.m.offer ⟨id,s,e⟩→K undef (put (engC b x'))):=⟨fun⟨hq,h⟩=>o.fn (eParts b x) rfl fun F=>f90 (by
 unfold s90
 simp only [eParts,List.cons_append,List.nil_append]
 refine go fun b1=> ?_
 refine fn_imp (cs':=engC b x::bk b1 85 [.int .i64 id,.string s,.bool e]::F) (Imp.trans (by dsimp only [eParts,List.cons_append,List.nil_append];exact drp) (eShut (x:=x))) ?_
 refine go ⟨fun hs=> ?_,fun k sh hs hg hid=> ?_⟩
 ·have:x.m.offer ⟨id,s,e⟩=x.m:=by unfold Eng.offer;simp only [hs]
  rw [this]at h
  exact eDone x drp (h x rfl)
 ·have hseat:x.m.seat k=some sh.m:=x.seat_iff.2 ⟨sh,hg,rfl⟩
  have hof:x.m.offer ⟨id,s,e⟩=if sh.m.eof=true∨4096<s.size then x.m else x.m.setSeat k (some {sh.m with q:=sh.m.q++s.data.toList,eof:=e}):=by unfold Eng.offer;simp only [hs,hseat]
  have rd:RdB (engC b x::bk b1 85 [.int .i64 id,.string s,.bool e]::F) sh.sb 197 (sCells sh):=⟨by
   have:engC b x=(eFoc b x k sh).flatten:=(eFoc_eq hg).symm
   rw [this];exact Rd.in (i:=0) rfl (by simp [bk])⟩
  refine go ?_
  refine fn_imp (cs':=eFoc b x k sh++(bk b1 85 [.int .i64 id,.string s,.bool e]::F)) (eLayF hg) ?_
  simp only [eFoc,List.cons_append,List.nil_append]
  have hqq:=hq k _ hseat
  refine go ⟨fun hc=> ?_,fun⟨hc1,hc2⟩=>⟨hqq,fun wi' w1 w2=> ?_⟩⟩
  ·rw [if_pos (by exact hc)]at hof
   rw [hof]at h
   refine eDone x (Imp.trans ?_ (eShutF hg)) (h x rfl)
   dsimp only [eFoc,List.cons_append,List.nil_append]
   exact drp
  ·rw [if_neg (by show¬(sh.wi.eof=true∨_);simp [hc1];omega)]at hof
   have hok:(x.m.setSeat k (some ({sh with wi:=wi'}:SeatH).m)).Ok:=setSeat_ok (y:=({sh with wi:=wi'}:SeatH).m) x.ok hseat rfl (x.ok.dO k sh.m hseat)
   have hm:({sh with wi:=wi'}:SeatH).m={sh.m with q:=sh.m.q++s.data.toList,eof:=e}:=by
    show(⟨sh.id,sh.dl.d,wi'.q,wi'.eof⟩:Seat)=_
    rw [w1,w2];rfl
   refine eDone (x.upS k sh {sh with wi:=wi'} hg rfl hok) (Imp.trans ?_ (upS_shut (s':={sh with wi:=wi'}) hg rfl hok)) (h _ ?_)
   ·dsimp only [eFoc,List.cons_append,List.nil_append];exact drp
   ·rw [hof,←hm];rfl)⟩
instance c96 [o:Ob engC cs b x put] {t id:Int}:Go1 (fn 96 [.pointer (some (ad b 0)),.agg ⟨[.int .i64 t,.int .i64 id]⟩] K cs) ((0≤id∧∃s,x.seats[id.toNat]? =some (some s))∧∀x',En.m x'=x.m.settle id.toNat→x'.seats=x.seats→K undef (put (engC b x'))):=⟨fun⟨hs,h⟩=>up0 (f96 (by
 unfold s96
 refine go fun b1=>⟨hs,fun x' h1 h2=>fin (h x' h1 h2)⟩))⟩
theorem mono_step (e:Eng) (k:Nat):e.out.length≤(e.step k).2.out.length:=by
 unfold Eng.step
 cases e.seat k with
 | none=>exact Nat.le_refl _
 | some x=>
  dsimp only
  cases x.d.step e.clock with
  | none=>dsimp only;split <;>exact Nat.le_refl _
  | some y=>dsimp only;split <;>simp [Eng.tell,Eng.setSeat,Eng.gone]
theorem mono_cut1 (t:Int) (now:Bool) (e:Eng) (id:Int):e.out.length≤(e.cut1 t now id).out.length:=by
 unfold Eng.cut1
 cases e.slots.slot id with
 | none=>exact Nat.le_refl _
 | some k=>
  dsimp only
  cases e.seat k with
  | none=>exact Nat.le_refl _
  | some x=>
   dsimp only
   have h1:=mono_step (e.setSeat k (some {x with d:=x.d.cut t})) k
   split
   ·rw [settle_out];exact Nat.le_refl _
   ·split
    ·rw [settle_out];exact h1
    ·exact h1
theorem mono_foldl {α:Type} {f:Eng→α→Eng} (hf:∀e a,e.out.length≤(f e a).out.length):∀(l:List α) (e:Eng),e.out.length≤(l.foldl f e).out.length
 | [],_=>Nat.le_refl _
 | a::l,e=>Nat.le_trans (hf e a) (mono_foldl hf l _)
instance c154 [o:Ob engC cs b x put] {t:Int} {now:Bool}:Go1 (fn 154 [.pointer (some (ad b 0)),.int .i64 t,.bool now] K cs) ((x.m.cut t now).out.length<1000000000000∧∀x',En.m x'=x.m.cut t now→K undef (put (engC b x'))):=⟨fun⟨hl,h⟩=>o.fn (eParts b x) rfl fun F=>f154 (by
 unfold Eng.cut at hl h
 have hl0:=mono_foldl (mono_cut1 t now) x.m.slots.live {x.m with drains:=true,out:=x.m.out++[evDrain t]}
 simp only [List.length_append,List.length_singleton]at hl0
 unfold s154
 simp only [eParts,List.cons_append,List.nil_append]
 refine go ?_
 let x1:En:={x with m:={x.m with drains:=true},ok:={x.ok with}}
 refine fn_imp (cs':=engC b x1::F) (Imp.trans (by dsimp only [eParts,eCells,x1,List.cons_append,List.nil_append];exact drp) (eShut (x:=x1))) ?_
 have hx1:x1.m.out.length<1000000000000:=by show x.m.out.length<_;omega
 refine go ⟨hx1,fun x2 hx2 hs2=> ?_⟩
 refine fn_imp (cs':=eParts b x2++F) eLay ?_
 simp only [eParts,List.cons_append,List.nil_append]
 refine go fun al nl cl chl rl=> ?_
 have el:x2.slx.m.live=x.m.slots.live:=by rw [x2.r1,hx2];rfl
 rw [el]at rl
 have hnl:=rl.len
 have el2:x2.m.slots.live=x.m.slots.live:=by rw [hx2];rfl
 have hnd:=x.ok.live_nodup
 have em2:x2.m={x.m with drains:=true,out:=x.m.out++[evDrain t]}:=by rw [hx2];rfl
 refine lp (fun y:Nat×En=>[.int .i64 y.1]) (fun y=>chl::engC b y.2::F) (fun y=>y.1≤nl∧(x.m.slots.live.drop y.1).foldl (Eng.cut1 t now) y.2.m=x.m.slots.live.foldl (Eng.cut1 t now) {x.m with drains:=true,out:=x.m.out++[evDrain t]}∧∀id∈x.m.slots.live.drop y.1,y.2.m.sits id) (fun y=>nl-y.1)
  (0,x2) rfl (Imp.trans (by dsimp only [eParts,List.cons_append,List.nil_append];exact drp) (Imp.trans (eShut (b:=b) (x:=x2) (F:=chl::F)) drp)) ⟨Nat.zero_le _,by rw [List.drop_zero,em2],fun id hid=>x2.ok.sits_iff.1 (by rw [←el2]at hid;exact hid)⟩ ?_
 rintro⟨i,xi⟩ ⟨i1,i2,i3⟩
 dsimp only at *
 refine go ?_
 simp only [decide_eq_true_eq,decide_eq_false_iff_not,Int.toNat_natCast,id]
 refine⟨fun c0=>⟨by omega,fun id hid=> ?_⟩,fun c0=> ?_⟩
 ·have hil:=lt_of_get hid
  have ed:x.m.slots.live.drop i=id::x.m.slots.live.drop (i+1):=by
   rw [List.drop_eq_getElem_cons hil]
   rw [List.getElem?_eq_getElem hil]at hid
   rw [Option.some.inj hid]
  rw [ed]at i2 i3
  rw [List.foldl_cons]at i2
  have hnd2:(id::x.m.slots.live.drop (i+1)).Nodup:=by rw [←ed];exact hnd.sublist (List.drop_sublist _ _)
  rw [List.nodup_cons]at hnd2
  obtain⟨k,y,hk,hyid⟩:=i3 id (by simp)
  have hslot:=xi.ok.slot_of hk
  rw [hyid]at hslot
  obtain⟨sh,hg,hm⟩:=xi.seat_iff.1 hk
  have hl1:(xi.m.cut1 t now id).out.length<1000000000000:=by
   have:=mono_foldl (mono_cut1 t now) (x.m.slots.live.drop (i+1)) (xi.m.cut1 t now id)
   rw [i2]at this;omega
  have hl2:=mono_cut1 t now xi.m id
  have hle:=x.ok.live_le
  rw [w64_succ (by omega)]
  have nx:∀(xn:En) (cx:St),xn.m=xi.m.cut1 t now id→Imp cx (chl::engC b xn::F)→∃x':Nat×En,[Value.int IntKind.i64 ((i+1:Nat):Int)]=[Value.int IntKind.i64 (x'.1:Int)]∧Imp cx (chl::engC b x'.2::F)∧(x'.1≤nl∧(x.m.slots.live.drop x'.1).foldl (Eng.cut1 t now) x'.2.m=x.m.slots.live.foldl (Eng.cut1 t now) {x.m with drains:=true,out:=x.m.out++[evDrain t]}∧∀id∈x.m.slots.live.drop x'.1,x'.2.m.sits id)∧nl-x'.1<nl-i:=by
   intro xn cx hxn hi
   refine⟨(i+1,xn),rfl,hi,⟨by omega,by rw [hxn];exact i2,fun id' hid'=> ?_⟩,by simp only;omega⟩
   rw [hxn]
   exact cut1_keeps xi.ok t now (fun e=>hnd2.1 (by rw [←e];exact hid')) (i3 id' (List.mem_cons_of_mem _ hid'))
  refine⟨fun hs=>absurd hs (by rw [hslot];simp),fun k' sh' hs hg' hid'=> ?_⟩
  rw [hslot]at hs;cases hs
  rw [hg]at hg';cases hg'
  have rd:RdB (chl::engC b xi::F) sh.sb 197 (sCells sh):=⟨by
   have:engC b xi=(eFoc b xi k sh).flatten:=(eFoc_eq hg).symm
   rw [this];exact Rd.in (i:=1) rfl (by simp [bk])⟩
  obtain⟨d1,d2,d4⟩:=xi.ok.dO _ _ hk
  have hc:=cut_like sh.dl.d t
  subst hm
  refine go ?_
  refine fn_imp (cs':=eFoc b xi k sh++(chl::F)) (Imp.trans drp (eLayF (b:=b) hg)) ?_
  simp only [List.cons_append,List.nil_append]
  refine go fun dl' hdl=> ?_
  have hok:(xi.m.setSeat k (some ({sh with dl:=dl'}:SeatH).m)).Ok:=setSeat_ok (y:=({sh with dl:=dl'}:SeatH).m) xi.ok hk rfl ⟨dl'.ok,by show dl'.d.s=_;rw [hdl];exact hc.1.trans d2,by show dl'.d.now≤_;rw [hdl,hc.2.2];exact d4⟩
  have hm2:({sh with dl:=dl'}:SeatH).m={sh.m with d:=sh.m.d.cut t}:=by
   show(⟨sh.id,dl'.d,_,_⟩:Seat)=_
   rw [hdl];rfl
  let xs:En:=xi.upS k sh {sh with dl:=dl'} hg rfl hok
  have hgs:xs.seats[k]? =some (some {sh with dl:=dl'}):=upS_get
  have hcut:xi.m.cut1 t now id=if now=false then xs.m.settle k else if(xs.m.step k).1 then(xs.m.step k).2.settle k else(xs.m.step k).2:=by
   unfold Eng.cut1
   rw [hslot]
   dsimp only
   rw [hk]
   dsimp only
   rw [←hm2];rfl
  have hxo:xs.m.out.length<1000000000000:=by show xi.m.out.length<_;omega
  have toC:Imp (bk b 174 (eCells xi)::xi.scs.ch::slotsC xi.slb xi.slx::xi.srch::turnsC xi.tb xi.tx::hpC xi.hb xi.hx::mpC mvI xi.mr xi.M::xi.och::seatsC (xi.seats.take k)::bk sh.sb 197 (sCells sh)::dialC sh.db dl'::wireC sh.wb sh.wi::seatsC (xi.seats.drop (k+1))::chl::F) (engC b xs::chl::F):=upS_shut (s':={sh with dl:=dl'}) hg rfl hok
  refine⟨fun c1=> ?_,fun c1=> ?_⟩
  ·have c1':now=false:=by simpa using c1
   rw [if_pos c1']at hcut
   refine fn_imp (cs':=engC b xs::chl::F) toC ?_
   refine go ⟨⟨by omega,_,by rw [Int.toNat_natCast];exact hgs⟩,fun x3 hx3 hs3=> ?_⟩
   exact nx x3 _ (by rw [hx3,hcut,Int.toNat_natCast]) drp
  ·have c1':¬now=false:=by simpa using c1
   rw [if_neg c1']at hcut
   refine fn_imp (cs':=engC b xs::chl::F) toC ?_
   refine go ⟨k,_,⟨rfl,hgs,hxo⟩,fun x3 hx3 hs3=>⟨fun c2=> ?_,fun c2=> ?_⟩⟩
   ·obtain⟨s',hs',_⟩:=hs3 c2
    rw [if_pos c2]at hcut
    refine go ⟨⟨by omega,s',by rw [Int.toNat_natCast,hs'];simp [lt_of_get hgs]⟩,fun x4 hx4 hs4=> ?_⟩
    exact nx x4 _ (by rw [hx4,hx3,hcut,Int.toNat_natCast]) drp
   ·rw [if_neg (by simp [c2])]at hcut
    exact nx x3 _ (by rw [hx3,hcut]) drp
 ·have ed:x.m.slots.live.drop i=[]:=List.drop_eq_nil_of_le (by omega)
  rw [ed]at i2
  exact eDone xi drp (h xi i2))⟩
end
section
variable {cs:St} {b:Nat} {x:En} {put:Chunk→St} {K:Value→SP}
instance c91 [o:Ob engC cs b x put] {t dr:Int} {ab:Bool} {a1 a2 a3:Option Addr} {n1 n2 n3 c1 c2 c3:Nat}:Go1 (fn 91 [.pointer (some (ad b 0)),.agg ⟨[.int .i64 t,.slice a1 n1 c1,.slice a2 n2 c2,.slice a3 n3 c3,.int .i64 dr,.bool ab]⟩] K cs)
  ((dr≤never∧(x.m.drain ⟨0,[],[],[],dr,ab⟩).out.length<1000000000000)∧∀x',En.m x'=x.m.drain ⟨0,[],[],[],dr,ab⟩→K undef (put (engC b x'))):=⟨fun⟨⟨hd,hl⟩,h⟩=>up0 (f91 (by
 have hnv:=nev
 have hcl:=x.ok.c1
 have ho:=o.same
 unfold s91
 unfold Eng.drain at hl h
 simp only at hl h
 have none_:∀{c:St},¬(ab=true∧x.m.stopped=false)→¬(ab=false∧dr>0∧x.m.drains=false)→Imp c cs→Up K undef c:=by
  intro c h1 h2 hi
  rw [if_neg h1,if_neg h2]at h
  have:=h x rfl
  rw [ho]at this
  exact⟨_,hi,this⟩
 refine go fun b1=> ?_
 have w1:dr>0→w64 (dr-1)=dr-1:=fun hh=>w64_id (by omega)
 simp only [gt_iff_lt,decide_eq_true_eq,decide_eq_false_iff_not,Bool.not_eq_true',Bool.not_eq_false']
 refine⟨fun c1=>⟨fun c2=>⟨?_,fun x' hx'=> ?_⟩,fun c2=>⟨fun c3=>absurd c1 (by rw [c3];decide),fun c3=>none_ (fun hh=>by rw [c2]at hh;exact absurd hh.2 (by decide)) (fun hh=>by rw [c1]at hh;exact absurd hh.1 (by decide)) drp⟩⟩,fun c1=>⟨fun c2=>⟨fun c3=>⟨fun c4=>⟨⟨by omega,by rw [w1 c3];omega⟩,?_,fun x' hx'=> ?_⟩,fun c4=>none_ (fun hh=>by rw [c1]at hh;exact absurd hh.1 (by decide)) (fun hh=>by rw [c4]at hh;exact absurd hh.2.2 (by decide)) drp⟩,fun c3=>none_ (fun hh=>by rw [c1]at hh;exact absurd hh.1 (by decide)) (fun hh=>c3 hh.2.1) drp⟩,fun c2=>absurd c1 (by rw [c2];decide)⟩⟩
 ·rw [if_pos ⟨c1,c2⟩]at hl;exact hl
 ·rw [if_pos ⟨c1,c2⟩]at h;exact fin (h x' hx')
 ·rw [if_neg (by simp [c1]),if_pos ⟨c1,c3,c4⟩]at hl;rw [w1 c3];exact hl
 ·rw [if_neg (by simp [c1]),if_pos ⟨c1,c3,c4⟩]at h;rw [w1 c3]at hx';exact fin (h x' hx')))⟩
theorem setSeat_same {e:Eng} {k:Nat} {y:Seat} (h:e.seat k=some y):e.setSeat k (some y)=e:=by
 unfold Eng.setSeat
 have:e.seats.set k (some y)=e.seats:=by
  apply List.ext_getElem?;intro i
  rw [List.getElem?_set];split
  ·rename_i hi;subst hi
   have:=seat_get.1 h
   rw [this,if_pos (seat_lt h)]
  ·rfl
 rw [this]
theorem set_same' {l:List (Option SeatH)} {k:Nat} {s:SeatH} (h:l[k]? =some (some s)):l.set k (some s)=l:=by
 apply List.ext_getElem?;intro i
 rw [List.getElem?_set];split
 ·rename_i hi;subst hi;rw [if_pos (lt_of_get h)];exact h.symm
 ·rfl
theorem empty_sb (l:List UInt8):((sb l).toList == (bs []).toList)=decide (l=[]):=by
 rw [size0,sb_size]
 cases l <;>simp
def Eng.read1 (e:Eng) (k:Nat) (x:Seat):Eng:=if x.reads=[]then e else(e.setSeat k (some x.read1)).tell (evRead x.id ⟨⟨x.reads⟩⟩)
def Seat.got (x:Seat):Seat:=if x.reads=[]then x else x.read1
theorem read_eq {e:Eng} {k:Nat} {x:Seat} (hk:e.seat k=some x) (h0:x.d.room≠0):e.read k=if x.got.over&&(x.got.d.runs&& !x.got.d.eof)then((e.read1 k x).setSeat k (some {x.got with d:=x.got.d.ends})).tell (evEof x.id)else e.read1 k x:=by
 unfold Eng.read
 rw [hk]
 dsimp only
 rw [if_neg h0]
 rfl
theorem read1_ok {e:Eng} (h:e.Ok) {k:Nat} {x:Seat} (hk:e.seat k=some x):(e.read1 k x).Ok∧(e.read1 k x).seat k=some x.got:=by
 unfold Eng.read1 Seat.got
 obtain⟨d1,d2,d4⟩:=h.dO _ _ hk
 have hp:=put_like x.d (x.q.take x.d.room)
 split
 ·exact⟨h,hk⟩
 ·refine⟨tell_ok (setSeat_ok (y:=x.read1) h hk rfl ⟨put_ok d1 _,hp.1.trans d2,by show(x.d.put _).now≤_;rw [hp.2.2];exact d4⟩) _,?_⟩
  exact(setSeat_seat hk _ k).trans (if_pos rfl)
theorem got_id (x:Seat):x.got.id=x.id:=by unfold Seat.got;split <;>rfl
theorem mono_read1 (e:Eng) (k:Nat) (x:Seat):e.out.length≤(e.read1 k x).out.length:=by
 unfold Eng.read1;split
 ·exact Nat.le_refl _
 ·simp [Eng.tell,Eng.setSeat]
theorem ends_same {d:Dia} (h:(d.runs&& !d.eof)=false):d.ends=d:=by
 unfold Dia.ends
 cases hr:d.runs with
 | false=>rfl
 | true=>
  rw [hr]at h
  have he:d.eof=true:=by simpa using h
  rw [if_pos rfl,←he]
theorem set_set' {l:List (Option SeatH)} {k:Nat} (a c:Option SeatH):(l.set k a).set k c=l.set k c:=List.set_set ..
instance c155 [o:Ob engC cs b x put] {sb_:Nat}:Go1 (fn 155 [.pointer (some (ad b 0)),.pointer (some (ad sb_ 0))] K cs)
  (∃(k:Nat) (s:SeatH),(x.seats[k]? =some (some s)∧sb_=s.sb∧x.m.out.length<999999999999∧s.wi.q.length≤1000000000000)∧∀x' s',En.m x'=x.m.read k→x'.seats=x.seats.set k (some s')→s'.sb=s.sb→s'.db=s.db→s'.wb=s.wb→K undef (put (engC b x'))):=⟨fun⟨k,s,⟨hs,hsb,hl,hq⟩,h⟩=>by
 subst hsb
 refine o.fn (eFoc b x k s) (eFoc_eq hs) fun F=>f155 ?_
 have hseat:x.m.seat k=some s.m:=x.seat_iff.2 ⟨s,hs,rfl⟩
 have hlt:=lt_of_get hs
 obtain⟨d1,d2,d4⟩:=x.ok.dO _ _ hseat
 simp only [List.cons_append,List.nil_append]
 unfold s155
 refine go ⟨fun c1=> ?_,fun c1=> ?_⟩
 ·have h0:s.dl.d.room=0:=by simpa using c1
  have:x.m.read k=x.m:=by unfold Eng.read;rw [hseat];dsimp only;rw [if_pos (show s.m.d.room=0 from h0)]
  rw [this]at h
  refine eDone x (Imp.trans ?_ (eShutF hs)) (h x s rfl (set_same' hs).symm rfl rfl rfl)
  dsimp only [eFoc,List.cons_append,List.nil_append]
  exact drp
 ·have h0:s.m.d.room≠0:=by have:¬s.dl.d.room=0:=(by simpa using c1);exact this
  have hre:=read_eq hseat h0
  obtain⟨ok1,seat1⟩:=read1_ok x.ok hseat
  have hm1:=mono_read1 x.m k s.m
  refine⟨fun l cx=>∃(x1:En) (s1:SeatH),x1.m=x.m.read1 k s.m∧s1.m=s.m.got∧x1.seats=x.seats.set k (some s1)∧s1.sb=s.sb∧s1.db=s.db∧s1.wb=s.wb∧x1.m.out.length<1000000000000∧Imp cx (eFoc b x1 k s1++F),?_,?_⟩
  ·rintro l cx ⟨x1,s1,e1,e2,e3,e4,e5,e6,e7,hi⟩
   refine⟨_,hi,?_⟩
   simp only [List.cons_append,List.nil_append]
   have hg1:x1.seats[k]? =some (some s1):=by rw [e3];simp [hlt]
   have hseat1:x1.m.seat k=some s1.m:=x1.seat_iff.2 ⟨s1,hg1,rfl⟩
   rw [←e4]
   have hov:s1.m.over=(s1.wi.eof&&s1.wi.q.isEmpty):=rfl
   rw [←e2]at hre
   obtain⟨q1,q2,q4⟩:=x1.ok.dO _ _ hseat1
   have he:=ends_like s1.dl.d
   refine go ⟨fun c1 dl' hdl=>⟨fun c2=> ?_,fun c2=> ?_⟩,fun c1=> ?_⟩
   ·have hok:(x1.m.setSeat k (some ({s1 with dl:=dl'}:SeatH).m)).Ok:=setSeat_ok (y:=({s1 with dl:=dl'}:SeatH).m) x1.ok hseat1 rfl ⟨dl'.ok,by show dl'.d.s=_;rw [hdl];exact he.1.trans q2,by show dl'.d.now≤_;rw [hdl,he.2.2];exact q4⟩
    have hm2:({s1 with dl:=dl'}:SeatH).m={s1.m with d:=s1.m.d.ends}:=by
     show(⟨s1.id,dl'.d,_,_⟩:Seat)=_
     rw [hdl];rfl
    rw [if_pos (by rw [hov,c1];exact c2)]at hre
    refine fn_imp (cs':=engC b (x1.upS k s1 {s1 with dl:=dl'} hg1 rfl hok)::F) (upS_shut (s':={s1 with dl:=dl'}) hg1 rfl hok) ?_
    refine go ⟨e7,fun x3 hx3 hs3=> ?_⟩
    refine eDone x3 (Imp.refl _) (h x3 {s1 with dl:=dl'} ?_ ?_ e4 e5 e6)
    ·rw [hx3,hre,←hm2,←e1]
     have:s.m.id=s1.id:=by rw [←got_id s.m,←e2];rfl
     rw [this];rfl
    ·rw [hs3];show x1.seats.set k _=_;rw [e3,set_set']
   ·have hes:=ends_same c2
    rw [hes]at hdl
    have hm2:({s1 with dl:=dl'}:SeatH).m=s1.m:=by
     show(⟨s1.id,dl'.d,_,_⟩:Seat)=_
     rw [hdl];rfl
    have hok:(x1.m.setSeat k (some ({s1 with dl:=dl'}:SeatH).m)).Ok:=by rw [hm2,setSeat_same hseat1];exact x1.ok
    rw [if_neg (by rw [hov,c1];have c3:(s1.m.d.runs&& !s1.m.d.eof)=false:=c2;rw [c3];decide)]at hre
    refine eDone (x1.upS k s1 {s1 with dl:=dl'} hg1 rfl hok) (Imp.trans ?_ (upS_shut (s':={s1 with dl:=dl'}) hg1 rfl hok)) (h _ {s1 with dl:=dl'} ?_ ?_ e4 e5 e6)
    ·dsimp only [eFoc,List.cons_append,List.nil_append];exact drp
    ·rw [hre];show x1.m.setSeat k (some ({s1 with dl:=dl'}:SeatH).m)=_;rw [hm2,setSeat_same hseat1,e1]
    ·show x1.seats.set k _=_;rw [e3,set_set']
   ·rw [if_neg (by rw [hov,c1];simp)]at hre
    refine eDone x1 (Imp.trans ?_ (eShutF hg1)) (h x1 s1 ?_ e3 e4 e5 e6)
    ·dsimp only [eFoc,List.cons_append,List.nil_append];exact drp
    ·rw [hre,e1]
  ·have emin:(min (s.dl.d.room:Int).toNat s.wi.q.length)=min s.dl.d.room s.wi.q.length:=by rw [Int.toNat_natCast]
   have hrd:s.m.reads=s.wi.q.take (min s.dl.d.room s.wi.q.length):=by
    show s.wi.q.take s.dl.d.room=_
    rw [List.take_eq_take_iff];omega
   have hdp:s.wi.q.drop (min s.dl.d.room s.wi.q.length)=s.wi.q.drop s.dl.d.room:=by
    by_cases hle:s.dl.d.room≤s.wi.q.length
    ·rw [Nat.min_eq_left hle]
    ·rw [Nat.min_eq_right (by omega),List.drop_eq_nil_of_le (Nat.le_refl _),List.drop_eq_nil_of_le (by omega)]
   have hp:=put_like s.dl.d s.m.reads
   refine go ⟨hq,fun wi' w1 w2=> ?_⟩
   rw [emin,hdp]at w1
   rw [emin,←hrd]
   simp only [empty_sb]
   refine⟨fun c2 dl' hdl=> ?_,fun c2=> ?_⟩
   ·have hne:¬s.m.reads=[]:=by simpa using c2
    let s1:SeatH:={s with dl:=dl',wi:=wi'}
    have hs1:s1.m=s.m.read1:=by
     show(⟨s.id,dl'.d,wi'.q,wi'.eof⟩:Seat)=⟨s.id,s.dl.d.put s.m.reads,s.wi.q.drop s.dl.d.room,s.wi.eof⟩
     rw [hdl,w1,w2];rfl
    have hok:(x.m.setSeat k (some s1.m)).Ok:=setSeat_ok (y:=s1.m) x.ok hseat rfl ⟨dl'.ok,by show dl'.d.s=_;rw [hdl];exact hp.1.trans d2,by show dl'.d.now≤_;rw [hdl];exact(show(s.dl.d.put s.m.reads).now≤_ by rw [hp.2.2];exact d4)⟩
    have hr1:x.m.read1 k s.m=(x.m.setSeat k (some s1.m)).tell (evRead s.id ⟨⟨s.m.reads⟩⟩):=by unfold Eng.read1;rw [if_neg hne,hs1];rfl
    refine fn_imp (cs':=engC b (x.upS k s s1 hs rfl hok)::F) (upS_shut (s':=s1) hs rfl hok) ?_
    refine go ⟨by show x.m.out.length<_;omega,fun x2 hx2 hs2=> ?_⟩
    have hs3:x2.seats=x.seats.set k (some s1):=hs2
    refine⟨x2,s1,?_,?_,hs3,rfl,rfl,rfl,?_,?_⟩
    ·rw [hx2,hr1];rfl
    ·rw [hs1];unfold Seat.got;rw [if_neg hne]
    ·rw [hx2];show(x.m.out++[_]).length<_;simp;omega
    ·exact eLayF (by rw [hs3];simp [hlt])
   ·have hne:s.m.reads=[]:=by simpa using c2
    let s1:SeatH:={s with wi:=wi'}
    have hqe:s.wi.q=[]:=by
     have hh:s.wi.q.take s.dl.d.room=[]:=hne
     have hr0:s.dl.d.room≠0:=h0
     cases hq0:s.wi.q with
     | nil=>rfl
     | cons a l=>rw [hq0]at hh;obtain⟨r,hr⟩:=Nat.exists_eq_succ_of_ne_zero hr0;rw [hr]at hh;simp at hh
    have hs1:s1.m=s.m:=by
     show(⟨s.id,s.dl.d,wi'.q,wi'.eof⟩:Seat)=⟨s.id,s.dl.d,s.wi.q,s.wi.eof⟩
     rw [w1,w2,hqe];simp
    have hok:(x.m.setSeat k (some s1.m)).Ok:=by rw [hs1,setSeat_same hseat];exact x.ok
    refine⟨x.upS k s s1 hs rfl hok,s1,?_,?_,rfl,rfl,rfl,rfl,?_,?_⟩
    ·show x.m.setSeat k (some s1.m)=_
     rw [hs1,setSeat_same hseat];unfold Eng.read1;rw [if_pos hne]
    ·rw [hs1];unfold Seat.got;rw [if_pos hne]
    ·show x.m.out.length<_;omega
    ·rw [upS_foc]
     dsimp only [eFoc,List.cons_append,List.nil_append];exact drp⟩
instance c156 [o:Ob engC cs b x put] {sb_:Nat} {n:Int}:Go1 (fn 156 [.pointer (some (ad b 0)),.pointer (some (ad sb_ 0)),.int .i64 n] K cs)
  (∃(k:Nat) (s:SeatH),(x.seats[k]? =some (some s)∧sb_=s.sb∧x.m.out.length<1000000000000)∧∀x' s',En.m x'=x.m.write k n→x'.seats=x.seats.set k (some s')→s'.sb=s.sb→s'.db=s.db→s'.wb=s.wb→K undef (put (engC b x'))):=⟨fun⟨k,s,⟨hs,hsb,hl⟩,h⟩=>by
 subst hsb
 refine o.fn (eFoc b x k s) (eFoc_eq hs) fun F=>f156 ?_
 have hseat:x.m.seat k=some s.m:=x.seat_iff.2 ⟨s,hs,rfl⟩
 have hlt:=lt_of_get hs
 obtain⟨d1,d2,d4⟩:=x.ok.dO _ _ hseat
 have ht:=take_like s.dl.d n
 have hw:x.m.write k n=if(s.dl.d.taken n).size=0 then x.m.setSeat k (some {s.m with d:=s.m.d.take n})else(x.m.setSeat k (some {s.m with d:=s.m.d.take n})).tell (evWrite s.id (s.dl.d.taken n)):=by
  unfold Eng.write;rw [hseat];rfl
 simp only [List.cons_append,List.nil_append]
 unfold s156
 refine go fun dl' hdl=> ?_
 have hm2:({s with dl:=dl'}:SeatH).m={s.m with d:=s.m.d.take n}:=by
  show(⟨s.id,dl'.d,_,_⟩:Seat)=_
  rw [hdl];rfl
 have hok:(x.m.setSeat k (some ({s with dl:=dl'}:SeatH).m)).Ok:=setSeat_ok (y:=({s with dl:=dl'}:SeatH).m) x.ok hseat rfl ⟨dl'.ok,by show dl'.d.s=_;rw [hdl];exact ht.1.trans d2,by show dl'.d.now≤_;rw [hdl,ht.2.2];exact d4⟩
 rw [←hm2]at hw
 simp only [size0]
 refine⟨fun c1=> ?_,fun c1=> ?_⟩
 ·rw [if_neg (by simpa using c1)]at hw
  refine fn_imp (cs':=engC b (x.upS k s {s with dl:=dl'} hs rfl hok)::F) (upS_shut (s':={s with dl:=dl'}) hs rfl hok) ?_
  refine go ⟨hl,fun x2 hx2 hs2=> ?_⟩
  refine eDone x2 (Imp.refl _) (h x2 {s with dl:=dl'} ?_ hs2 rfl rfl rfl)
  rw [hx2,hw];rfl
 ·rw [if_pos (by simpa using c1)]at hw
  refine eDone (x.upS k s {s with dl:=dl'} hs rfl hok) (Imp.trans ?_ (upS_shut (s':={s with dl:=dl'}) hs rfl hok)) (h _ {s with dl:=dl'} ?_ rfl rfl rfl rfl)
  ·dsimp only [eFoc,List.cons_append,List.nil_append];exact drp
  ·rw [hw];rfl⟩
theorem mono_read (e:Eng) (k:Nat):e.out.length≤(e.read k).out.length:=by
 cases hk:e.seat k with
 | none=>unfold Eng.read;rw [hk];exact Nat.le_refl _
 | some x=>
  by_cases h0:x.d.room=0
  ·unfold Eng.read;rw [hk];dsimp only;rw [if_pos h0];exact Nat.le_refl _
  ·rw [read_eq hk h0]
   have:=mono_read1 e k x
   split
   ·simp only [Eng.tell,Eng.setSeat,List.length_append,List.length_singleton];omega
   ·exact this
theorem mono_write (e:Eng) (k:Nat) (n:Int):e.out.length≤(e.write k n).out.length:=by
 unfold Eng.write
 cases e.seat k with
 | none=>exact Nat.le_refl _
 | some x=>dsimp only;split <;>simp [Eng.tell,Eng.setSeat]
theorem up_read (e:Eng) (k:Nat):(e.read k).out.length≤e.out.length+2:=by
 cases hk:e.seat k with
 | none=>unfold Eng.read;rw [hk];simp
 | some x=>
  by_cases h0:x.d.room=0
  ·unfold Eng.read;rw [hk];dsimp only;rw [if_pos h0];omega
  ·rw [read_eq hk h0]
   have:(e.read1 k x).out.length≤e.out.length+1:=by
    unfold Eng.read1;split
    ·omega
    ·simp [Eng.tell,Eng.setSeat]
   split
   ·simp only [Eng.tell,Eng.setSeat,List.length_append,List.length_singleton];omega
   ·omega
instance c93 [o:Ob engC cs b x put] {id ac:Int} {r w:Bool}:Go1 (fn 93 [.pointer (some (ad b 0)),.agg ⟨[.int .i64 id,.bool r,.bool w,.int .i64 ac]⟩] K cs)
  ((x.m.out.length<999999999990∧(∀k y,x.m.seat k=some y→y.q.length≤1000000000000))∧∀x',En.m x'=x.m.report ⟨id,r,w,ac⟩→K undef (put (engC b x'))):=⟨fun⟨⟨hl,hq⟩,h⟩=>o.fn (eParts b x) rfl fun F=>f93 (by
 unfold s93
 have hon:=x.orow.len
 simp only [eParts,List.cons_append,List.nil_append]
 refine go fun b1=> ?_
 refine fn_imp (cs':=engC b x::bk b1 87 [.int .i64 id,.bool r,.bool w,.int .i64 ac]::F) (Imp.trans (by dsimp only [eParts,List.cons_append,List.nil_append];exact drp) (eShut (b:=b) (x:=x))) ?_
 refine go ⟨fun hs=>⟨fun _=> ?_,fun c0=>absurd c0 (by decide)⟩,fun k sh hs hg hid=>⟨fun c0=>absurd c0 (by decide),fun _=> ?_⟩⟩
 ·have:x.m.report ⟨id,r,w,ac⟩=x.m:=by unfold Eng.report;simp only [hs]
  rw [this]at h
  exact eDone x drp (h x rfl)
 ·have hseat:x.m.seat k=some sh.m:=x.seat_iff.2 ⟨sh,hg,rfl⟩
  have hlt:=lt_of_get hg
  have hre:x.m.report ⟨id,r,w,ac⟩=if(x.m.reported ⟨id,r,w,ac⟩ k).out.length>x.m.out.length then(x.m.reported ⟨id,r,w,ac⟩ k).settle k else x.m.reported ⟨id,r,w,ac⟩ k:=by unfold Eng.report;simp only [hs]
  refine⟨fun l cx=>∃(x1:En) (s1:SeatH),x1.m=(if r then x.m.read k else x.m)∧x1.seats=x.seats.set k (some s1)∧s1.sb=sh.sb∧Imp cx (engC b x1::bk b1 87 [.int .i64 id,.bool r,.bool w,.int .i64 ac]::F),?_,?_⟩
  ·rintro l cx ⟨x1,s1,e1,e2,e3,hi⟩
   have hg1:x1.seats[k]? =some (some s1):=by rw [e2];simp [hlt]
   have hl1:x1.m.out.length<1000000000000:=by
    rw [e1];have:=up_read x.m k;split <;>omega
   refine⟨_,hi,?_⟩
   refine⟨fun l cx=>∃(x2:En) (s2:SeatH),x2.m=x.m.reported ⟨id,r,w,ac⟩ k∧x2.seats=x.seats.set k (some s2)∧Imp cx (engC b x2::bk b1 87 [.int .i64 id,.bool r,.bool w,.int .i64 ac]::F),?_,?_⟩
   ·rintro l cx ⟨x2,s2,g1,g2,hi2⟩
    refine⟨_,hi2,?_⟩
    have hon2:=x2.orow.len
    have hg2:x2.seats[k]? =some (some s2):=by rw [g2];simp [hlt]
    rw [←g1]at hre
    refine go ?_
    simp only [decide_eq_true_eq,decide_eq_false_iff_not,gt_iff_lt]
    refine⟨fun c1=>⟨⟨by omega,s2,by rw [Int.toNat_natCast];exact hg2⟩,fun x3 hx3 _=> ?_⟩,fun c1=> ?_⟩
    ·rw [if_pos (by omega)]at hre
     rw [Int.toNat_natCast]at hx3
     exact eDone x3 drp (h x3 (by rw [hx3,hre]))
    ·rw [if_neg (by omega)]at hre
     exact eDone x2 drp (h x2 (by rw [hre]))
   ·rw [←e3]
    refine go ⟨fun c1=>⟨k,s1,⟨hg1,rfl,hl1⟩,fun x2 s2 g1 g2 g3 g4 g5=>⟨x2,s2,?_,?_,drp⟩⟩,fun c1=>⟨x1,s1,?_,e2,Imp.refl _⟩⟩
    ·rw [g1,e1];unfold Eng.reported;simp only [c1,if_true]
    ·rw [g2,e2,set_set']
    ·rw [e1];unfold Eng.reported;simp only [c1,Bool.false_eq_true,if_false]
  ·refine go ⟨fun c1=>⟨k,sh,⟨hg,rfl,by omega,hq k _ hseat⟩,fun x1 s1 g1 g2 g3 g4 g5=>⟨x1,s1,by rw [g1,c1];rfl,g2,g3,drp⟩⟩,fun c1=>⟨x,sh,by rw [c1];rfl,(set_same' hg).symm,rfl,Imp.refl _⟩⟩)⟩
theorem mono_spend:∀(f:Nat) (e:Eng) (k:Nat),e.out.length≤(Eng.spend f e k).2.out.length
 | 0,_,_=>Nat.le_refl _
 | f+1,e,k=>by
  rw [Eng.spend]
  cases e.seat k with
  | none=>exact Nat.le_refl _
  | some x=>
   dsimp only
   split
   ·split
    ·have h1:=mono_step {e with turns:=(e.turns.pay x.d.price).1} k
     split
     ·exact Nat.le_trans h1 (mono_spend f _ k)
     ·exact h1
    ·exact Nat.le_refl _
   ·exact Nat.le_refl _
theorem rest_out (e:Eng) (k:Nat):(e.rest k).out=e.out:=by unfold Eng.rest;cases e.seat k <;>rfl
theorem price_pos {d:Dia} (h:d.Ok) (hr:d.status=0):1≤d.price∧d.price≤10000:=by
 have hg:=good_facts h.sg
 unfold Dia.price Dia.runs
 rw [hr]
 simp only [BEq.rfl,if_true]
 unfold price some'
 rw [if_neg (by rw [h.sg];decide)]
 split
 ·omega
 ·split <;>omega
theorem pay_true {t:Turns} {p:Int} (h:(t.pay p).2=true) (hp:1≤p):t.who≠-1∧p≤t.has.getD t.who.toNat 0∧(t.pay p).1={t with has:=t.has.set t.who.toNat (t.has.getD t.who.toNat 0-p)}:=by
 unfold Turns.pay at h ⊢
 split at h
 ·cases h
 ·split at h
  ·cases h
  ·rename_i h1 h2
   have e:max p 0=p:=by omega
   rw [if_neg h1,if_neg h2,e]
   rw [e]at h2
   exact⟨h1,by omega,rfl⟩
instance c97 [o:Ob engC cs b x put]:Go1 (fn 97 [.pointer (some (ad b 0))] K cs)
  (x.m.turn.2.out.length<1000000000000∧∀x',En.m x'=x.m.turn.2→K (.bool x.m.turn.1) (put (engC b x'))):=⟨fun⟨hl,h⟩=>o.fn (eParts b x) rfl fun F=>f97 (by
 unfold s97
 simp only [eParts,List.cons_append,List.nil_append]
 have hr:=x.srow
 have hn:=x.srow.len
 rw [List.length_map]at hn
 have er2:x.tx.m.begin=x.m.turns.begin:=by rw [x.r2]
 refine go ⟨fun hb=>⟨fun _=> ?_,fun c0=>absurd c0 (by decide)⟩,fun k hb tx' htx=>⟨fun c0=>absurd c0 (by decide),fun _=> ?_⟩⟩
 ·rw [er2]at hb
  have:x.m.turn=(false,x.m):=by unfold Eng.turn;rw [hb]
  rw [this]at h
  refine eDone x (Imp.trans ?_ eShut) (h x rfl)
  dsimp only [eParts,List.cons_append,List.nil_append];exact drp
 ·rw [er2]at hb htx
  obtain⟨hok0,y0,hy0⟩:=begin_ok x.ok hb
  obtain⟨s,hs,hsm⟩:=x.seat_iff.1 hy0
  subst hsm
  have hlt:=lt_of_get hs
  let x0:En:={x with m:={x.m with turns:=x.m.turns.begin.1},tx:=tx',r2:=htx,ok:=hok0}
  have hturn:x.m.turn=if(Eng.spend ((x.m.turns.begin.1.has.getD k 0).toNat+1) x0.m k).1 then(true,(Eng.spend ((x.m.turns.begin.1.has.getD k 0).toNat+1) x0.m k).2.rest k)else(true,(Eng.spend ((x.m.turns.begin.1.has.getD k 0).toNat+1) x0.m k).2):=by unfold Eng.turn;rw [hb]
  generalize hS:Eng.spend ((x.m.turns.begin.1.has.getD k 0).toNat+1) x0.m k=S at *
  have hwho:x0.m.turns.who=k:=(begin_facts hb x.ok.tn).2.2.2.2.1
  have hSl:S.2.out.length<1000000000000:=by
   rw [hturn]at hl
   split at hl
   ·rw [rest_out]at hl;exact hl
   ·exact hl
  refine⟨⟨by omega,by omega⟩,fun p hp=> ?_⟩
  rw [Int.toNat_natCast,List.getElem?_map,hs]at hp
  cases hp
  simp only [ptrS,Option.map_some,id]
  have toC0:Imp (bk b 174 (eCells x)::x.scs.ch::slotsC x.slb x.slx::x.srch::turnsC x.tb tx'::hpC x.hb x.hx::mpC mvI x.mr x.M::x.och::seatsC x.seats::F) (engC b x0::F):=eShut (x:=x0)
  refine⟨fun l cx=>∃(xi:En) (si:SeatH),xi.seats[k]? =some (some si)∧si.sb=s.sb∧S=(true,xi.m)∧Imp cx (engC b xi::F),?_,?_⟩
  ·rintro l cx ⟨xi,si,hg,hsb,hSi,hi⟩
   refine⟨_,hi.trans (eLayF hg),?_⟩
   simp only [List.cons_append,List.nil_append]
   rw [←hsb]
   have hseat:xi.m.seat k=some si.m:=xi.seat_iff.2 ⟨si,hg,rfl⟩
   have hkl:=xi.ok.lt hseat
   have htl:=xi.r3.cns.tl
   have h4:=xi.ok.l4
   have hwk:xi.m.turns.who=k:=by
    have:=spend_who ((x.m.turns.begin.1.has.getD k 0).toNat+1) x0.m k (by rw [hS,hSi])
    rw [hS,hSi]at this
    rw [this];exact hwho
   have hrok:=rest_ok xi.ok k hwk
   have hre:xi.m.rest k={xi.m with turns:=xi.m.turns.fin (si.dl.d.ready xi.m.clock),tm:=tmSet xi.m.tm k si.dl.d.next}:=by unfold Eng.rest;rw [hseat];rfl
   rw [hSi,if_pos rfl]at hturn
   rw [hturn]at h
   rw [hre]at h hrok
   refine go fun tx2 r2 q1=>⟨xi.m.tm,⟨⟨by omega,by omega⟩,next_le _⟩,xi.r3,fun w' g1 g2 r3=> ?_⟩
   rw [xi.r2]at q1
   rw [Int.toNat_natCast]at g1
   let x3:En:={xi with m:={xi.m with turns:=xi.m.turns.fin (si.dl.d.ready xi.m.clock),tm:=tmSet xi.m.tm k si.dl.d.next},hx:=w',tx:=tx2,r3:=g1,r2:=q1,ok:=hrok}
   refine eDone x3 (Imp.trans ?_ (eShutF (x:=x3) (k:=k) (s:=si) hg)) (h x3 rfl)
   dsimp only [x3,eFoc,eCells,List.cons_append,List.nil_append]
   exact drp
  ·refine lp (fun _:En×SeatH×Nat=>[]) (fun y=>engC b y.1::F) (fun y=>y.1.seats[k]? =some (some y.2.1)∧y.2.1.sb=s.sb∧Eng.spend y.2.2 y.1.m k=S∧(y.1.m.turns.has.getD k 0).toNat<y.2.2∧y.1.m.turns.who=k) (fun y=>y.2.2)
    (x0,s,(x.m.turns.begin.1.has.getD k 0).toNat+1) rfl toC0 ⟨hs,rfl,hS,Nat.lt_succ_self _,hwho⟩ ?_
   rintro⟨xi,si,f⟩ ⟨hg,hsb,hSi,hf,hwi⟩
   dsimp only at *
   obtain⟨f',rfl⟩:∃f',f=f'+1:=⟨f-1,by omega⟩
   have hseat:xi.m.seat k=some si.m:=xi.seat_iff.2 ⟨si,hg,rfl⟩
   have hlti:=lt_of_get hg
   rw [Eng.spend,hseat]at hSi
   dsimp only at hSi
   rw [←hsb]
   have rd:RdB (engC b xi::F) si.sb 197 (sCells si):=⟨by
    have:engC b xi=(eFoc b xi k si).flatten:=(eFoc_eq hg).symm
    rw [this];exact Rd.in (i:=0) rfl (by simp [bk])⟩
   refine⟨fun l cx=>∃xj:En,xj.seats=xi.seats∧si.dl.d.ready xi.m.clock=true∧(xi.m.turns.pay si.dl.d.price).2=true∧xj.m={xi.m with turns:=(xi.m.turns.pay si.dl.d.price).1}∧Imp cx (engC b xj::F),?_,?_⟩
   ·rintro l cx ⟨xj,j1,j2,j3,j4,hi⟩
    refine⟨_,hi,?_⟩
    have hgj:xj.seats[k]? =some (some si):=by rw [j1];exact hg
    rw [if_pos (show si.m.d.ready xi.m.clock=true from j2),if_pos (show(xi.m.turns.pay si.m.d.price).2=true from j3)]at hSi
    rw [show({xi.m with turns:=(xi.m.turns.pay si.m.d.price).1}:Eng)=xj.m from j4.symm]at hSi
    have hpp:=price_pos si.dl.ok (ready_runs j2)
    obtain⟨p1,p2,p3⟩:=pay_true j3 hpp.1
    have hwj:xj.m.turns.who=k:=by rw [j4];show(xi.m.turns.pay _).1.who=_;rw [(pay_who _ _).1,hwi]
    have hm:=mono_step xj.m k
    have hlj:xj.m.out.length<1000000000000:=by
     split at hSi
     ·have:=mono_spend f' (xj.m.step k).2 k;rw [hSi]at this;omega
     ·rw [←hSi]at hSl;simp only at hSl;omega
    refine go ⟨k,si,⟨rfl,hgj,hlj⟩,fun x2 hx2 hs2=>⟨fun c1=> ?_,fun c1=> ?_⟩⟩
    ·have c1':(xj.m.step k).1=false:=by simpa using c1
     rw [if_neg (by simp [c1'])]at hSi
     rw [←hSi,if_neg (by simp)]at hturn
     rw [hturn]at h
     exact eDone x2 (Imp.refl _) (h x2 hx2)
    ·have c1':(xj.m.step k).1=true:=by simpa using c1
     rw [if_pos c1']at hSi
     obtain⟨s',q1,q2,q3,q4⟩:=hs2 c1'
     refine⟨(x2,s',f'),rfl,Imp.refl _,⟨?_,?_,?_,?_,?_⟩,by simp only;omega⟩
     ·show x2.seats[k]? =_
      rw [q1];simp [lt_of_get hgj]
     ·show s'.sb=_
      rw [q2,hsb]
     ·show Eng.spend f' x2.m k=S
      rw [hx2];exact hSi
     ·show(x2.m.turns.has.getD k 0).toNat<f'
      rw [hx2,step_turns c1',j4]
      show((xi.m.turns.pay _).1.has.getD k 0).toNat<f'
      rw [p3]
      have hwt:xi.m.turns.who.toNat=k:=by rw [hwi];rfl
      rw [hwt]at p2
      simp only [hwt]
      have hkl:k<xi.m.turns.has.length:=by
       rcases Nat.lt_or_ge k xi.m.turns.has.length with hh | hh
       ·exact hh
       ·rw [List.getD_eq_getElem?_getD,List.getElem?_eq_none hh]at p2;simp at p2;omega
      rw [List.getD_eq_getElem?_getD,List.getElem?_set_self hkl]
      simp only [Option.getD_some]
      omega
     ·show x2.m.turns.who=k
      rw [hx2,step_turns c1',hwj]
   ·refine go ?_
    refine fn_imp (cs':=eFoc b xi k si++F) (eLayF hg) ?_
    simp only [List.cons_append,List.nil_append]
    have hpb:(si.dl.d.ready xi.m.clock=true→-9223372036854775808≤si.dl.d.price∧si.dl.d.price≤9223372036854775807):=fun hh=>by have:=price_pos si.dl.ok (ready_runs hh);omega
    refine go ⟨fun c1=>⟨hpb c1,fun tx2 q1=>⟨fun c2=> ?_,fun c2=> ?_⟩⟩,fun c1=> ?_⟩
    ·rw [xi.r2]at q1 c2
     let xj:En:={xi with m:={xi.m with turns:=(xi.m.turns.pay si.dl.d.price).1},tx:=tx2,r2:=q1,ok:=pay_ok xi.ok _}
     refine⟨xj,rfl,c1,c2,rfl,Imp.trans ?_ (eShutF (x:=xj) (k:=k) (s:=si) hg)⟩
     dsimp only [xj,eFoc,eCells,List.cons_append,List.nil_append]
     exact drp
    ·rw [xi.r2]at q1 c2
     rw [if_pos (show si.m.d.ready xi.m.clock=true from c1),if_neg (by show¬(xi.m.turns.pay si.dl.d.price).2=true;rw [c2];decide)]at hSi
     have hpe:(xi.m.turns.pay si.dl.d.price).1=xi.m.turns:=by
      unfold Turns.pay at c2 ⊢
      split
      ·rfl
      ·rename_i h1
       rw [if_neg h1]at c2
       split
       ·rfl
       ·rename_i h2;rw [if_neg h2]at c2;cases c2
     rw [hpe]at q1
     let xj:En:={xi with tx:=tx2,r2:=q1}
     refine⟨xj,si,hg,rfl,hSi.symm,Imp.trans ?_ (eShutF (x:=xj) (k:=k) (s:=si) hg)⟩
     dsimp only [xj,eFoc,eCells,List.cons_append,List.nil_append]
     exact drp
    ·rw [if_neg (by show¬si.dl.d.ready xi.m.clock=true;rw [c1];decide)]at hSi
     exact⟨xi,si,hg,rfl,hSi.symm,by exact(eShutF (b:=b) (F:=F) hg)⟩)⟩
end
def Eng.qle (e:Eng) (N:Nat):Prop:=∀k y,e.seat k=some y→y.q.length≤N
theorem qle_mono {e:Eng} {N M:Nat} (h:e.qle N) (hm:N≤M):e.qle M:=fun k y hk=>Nat.le_trans (h k y hk) hm
theorem qle_of {e e':Eng} {N:Nat} (h:e.qle N) (hs:∀k,e'.seat k=e.seat k):e'.qle N:=fun k y hk=>h k y (by rw [←hs];exact hk)
theorem qle_settle {e:Eng} {N:Nat} (h:e.qle N) (k:Nat):(e.settle k).qle N:=qle_of h (settle_seat e k)
theorem qle_setSeat {e:Eng} {N:Nat} (h:e.qle N) {k:Nat} {x y:Seat} (hk:e.seat k=some x) (hy:y.q.length≤N):(e.setSeat k (some y)).qle N:=fun i z hz=>by
 rw [setSeat_seat hk]at hz
 split at hz
 ·cases hz;exact hy
 ·exact h i z hz
theorem qle_gone {e:Eng} {N:Nat} (h:e.qle N) (k:Nat) (id:Int):(e.gone k id).qle N:=fun i z hz=>by
 rw [gone_seat]at hz
 split at hz
 ·cases hz
 ·exact h i z hz
theorem qle_tell {e:Eng} {N:Nat} (h:e.qle N) (v:EvM):(e.tell v).qle N:=h
theorem qle_step {e:Eng} {N:Nat} (h:e.qle N) (k:Nat):(e.step k).2.qle N:=by
 unfold Eng.step
 cases hk:e.seat k with
 | none=>exact h
 | some x=>
  dsimp only
  have hx:=h k x hk
  cases x.d.step e.clock with
  | none=>dsimp only;split;exact h;exact qle_gone h _ _
  | some y=>
   dsimp only
   have h1:((e.setSeat k (some {x with d:=y.2})).tell (evStep x.id y.1)).qle N:=qle_setSeat (y:={x with d:=y.2}) h hk hx
   split
   ·exact h1
   ·exact qle_gone h1 _ _
theorem qle_foldl {α:Type} {N:Nat} {f:Eng→α→Eng} (hf:∀e a,e.qle N→(f e a).qle N):∀(l:List α) (e:Eng),e.qle N→(l.foldl f e).qle N
 | [],_,h=>h
 | a::l,e,h=>qle_foldl hf l _ (hf e a h)
theorem qle_open {e:Eng} {N:Nat} (h:e.qle N) (n:Int):(e.open n).qle N:=by
 unfold Eng.open
 split
 ·exact h
 ·refine qle_settle (fun i z hz=> ?_) _
  unfold Eng.seat at hz
  simp only at hz
  rw [List.getD_eq_getElem?_getD,List.getElem?_set]at hz
  split at hz
  ·split at hz
   ·simp at hz;rw [←hz];exact Nat.zero_le _
   ·simp at hz
  ·refine h i z ?_
   unfold Eng.seat
   rw [List.getD_eq_getElem?_getD];exact hz
theorem qle_offer {e:Eng} {N:Nat} (h:e.qle N) (o:OfferM):(e.offer o).qle (N+o.bytes.size):=by
 unfold Eng.offer
 have h':=qle_mono h (Nat.le_add_right N o.bytes.size)
 cases e.slots.slot o.id with
 | none=>exact h'
 | some k=>
  dsimp only
  cases hk:e.seat k with
  | none=>exact h'
  | some x=>
   dsimp only
   split
   ·exact h'
   ·refine qle_setSeat h' hk ?_
    have:=h k x hk
    simp only [List.length_append]
    have e1:o.bytes.data.toList.length=o.bytes.size:=rfl
    omega
def offSum (l:List OfferM):Nat:=(l.map fun o=>o.bytes.size).sum
theorem qle_offers:∀(l:List OfferM) (e:Eng) (N:Nat),e.qle N→(l.foldl Eng.offer e).qle (N+offSum l)
 | [],_,_,h=>h
 | o::l,e,N,h=>by
  have:=qle_offers l _ _ (qle_offer h o)
  simp only [offSum,List.map_cons,List.sum_cons]at this ⊢
  rw [←Nat.add_assoc];exact this
theorem qle_cut1 {N:Nat} (t:Int) (now:Bool) (e:Eng) (id:Int) (h:e.qle N):(e.cut1 t now id).qle N:=by
 unfold Eng.cut1
 cases e.slots.slot id with
 | none=>exact h
 | some k=>
  dsimp only
  cases hk:e.seat k with
  | none=>exact h
  | some x=>
   dsimp only
   have h1:(e.setSeat k (some {x with d:=x.d.cut t})).qle N:=qle_setSeat (y:={x with d:=x.d.cut t}) h hk (h k x hk)
   split
   ·exact qle_settle h1 k
   ·split
    ·exact qle_settle (qle_step h1 k) k
    ·exact qle_step h1 k
theorem qle_cut {e:Eng} {N:Nat} (h:e.qle N) (t:Int) (now:Bool):(e.cut t now).qle N:=qle_foldl (fun e a h=>qle_cut1 t now e a h) _ _ h
theorem qle_drain {e:Eng} {N:Nat} (h:e.qle N) (r:RoundM):(e.drain r).qle N:=by
 unfold Eng.drain
 split
 ·exact qle_cut h _ _
 ·split
  ·exact qle_cut h _ _
  ·exact h
theorem qle_read {e:Eng} {N:Nat} (h:e.qle N) (k:Nat):(e.read k).qle N:=by
 cases hk:e.seat k with
 | none=>unfold Eng.read;rw [hk];exact h
 | some x=>
  have hx:=h k x hk
  by_cases h0:x.d.room=0
  ·unfold Eng.read;rw [hk];dsimp only;rw [if_pos h0];exact h
  ·rw [read_eq hk h0]
   have hg:x.got.q.length≤N:=by
    unfold Seat.got;split
    ·exact hx
    ·show(x.q.drop x.d.room).length≤N
     rw [List.length_drop];omega
   have h1:(e.read1 k x).qle N:=by
    unfold Eng.read1;split
    ·exact h
    ·refine qle_tell (qle_setSeat h hk ?_) _
     show(x.q.drop x.d.room).length≤N
     rw [List.length_drop];omega
   split
   ·have hs:∃z,(e.read1 k x).seat k=some z:=by
     unfold Eng.read1;split
     ·exact⟨x,hk⟩
     ·exact⟨x.read1,(setSeat_seat hk _ k).trans (if_pos rfl)⟩
    obtain⟨z,hz⟩:=hs
    exact qle_tell (qle_setSeat (y:={x.got with d:=x.got.d.ends}) h1 hz hg) _
   ·exact h1
theorem qle_write {e:Eng} {N:Nat} (h:e.qle N) (k:Nat) (n:Int):(e.write k n).qle N:=by
 unfold Eng.write
 cases hk:e.seat k with
 | none=>exact h
 | some x=>
  dsimp only
  have h1:(e.setSeat k (some {x with d:=x.d.take n})).qle N:=qle_setSeat (y:={x with d:=x.d.take n}) h hk (h k x hk)
  split
  ·exact h1
  ·exact qle_tell h1 _
theorem qle_reported {e:Eng} {N:Nat} (h:e.qle N) (r:ReportM) (k:Nat):(e.reported r k).qle N:=by
 unfold Eng.reported
 dsimp only
 have h1:(if r.read then e.read k else e).qle N:=by
  split
  ·exact qle_read h k
  ·exact h
 split
 ·exact qle_write h1 k _
 ·exact h1
theorem qle_report {e:Eng} {N:Nat} (h:e.qle N) (r:ReportM):(e.report r).qle N:=by
 unfold Eng.report
 cases e.slots.slot r.id with
 | none=>exact h
 | some k=>
  dsimp only
  split
  ·exact qle_settle (qle_reported h r k) k
  ·exact qle_reported h r k
theorem qle_spend {N:Nat}:∀(f:Nat) (e:Eng) (k:Nat),e.qle N→(Eng.spend f e k).2.qle N
 | 0,_,_,h=>h
 | f+1,e,k,h=>by
  rw [Eng.spend]
  cases e.seat k with
  | none=>exact h
  | some x=>
   dsimp only
   split
   ·split
    ·have h1:((({e with turns:=(e.turns.pay x.d.price).1}:Eng).step k).2).qle N:=qle_step (e:={e with turns:=(e.turns.pay x.d.price).1}) h k
     split
     ·exact qle_spend f _ k h1
     ·exact h1
    ·exact h
   ·exact h
theorem rest_seat (e:Eng) (k i:Nat):(e.rest k).seat i=e.seat i:=by unfold Eng.rest;cases e.seat k <;>rfl
theorem qle_turn {e:Eng} {N:Nat} (h:e.qle N):e.turn.2.qle N:=by
 unfold Eng.turn
 cases e.turns.begin.2 with
 | none=>exact h
 | some k=>
  dsimp only
  have h1:=qle_spend ((e.turns.begin.1.has.getD k 0).toNat+1) {e with turns:=e.turns.begin.1} k h
  split
  ·exact qle_of h1 (rest_seat _ k)
  ·exact h1
theorem qle_visit {N:Nat}:∀(v:Nat) (e:Eng),e.qle N→(Eng.visit v e).qle N
 | 0,_,h=>h
 | v+1,e,h=>by
  rw [Eng.visit];split
  ·exact qle_visit v _ (qle_turn h)
  ·exact h
theorem qle_round {e:Eng} {N:Nat} (h:e.qle N) (r:RoundM):(e.round r).qle (N+offSum r.offers):=by
 have h1:(e.told r).qle (N+offSum r.offers):=qle_foldl (fun e a h=>qle_report h a) _ _ (qle_drain (qle_offers _ _ _ (qle_foldl (fun e a h=>qle_open h a) _ _ (show(e.start r).qle N from h))) r)
 have h2:(e.told r).wakeAll.qle (N+offSum r.offers):=qle_foldl (fun e a h=>qle_settle h _) _ _ h1
 have h3:=qle_visit e.s.visits.toNat _ h2
 unfold Eng.round Eng.halt
 split
 ·exact h3
 ·exact h3
theorem mono_settle (e:Eng) (k:Nat):e.out.length≤(e.settle k).out.length:=by rw [settle_out];exact Nat.le_refl _
theorem mono_open (e:Eng) (n:Int):e.out.length≤(e.open n).out.length:=by
 unfold Eng.open;split
 ·simp
 ·rw [settle_out];simp
theorem mono_offer (e:Eng) (o:OfferM):e.out.length≤(e.offer o).out.length:=by
 unfold Eng.offer
 cases e.slots.slot o.id with
 | none=>exact Nat.le_refl _
 | some k=>
  dsimp only
  cases e.seat k with
  | none=>exact Nat.le_refl _
  | some x=>dsimp only;split <;>exact Nat.le_refl _
theorem mono_cut (e:Eng) (t:Int) (now:Bool):e.out.length≤(e.cut t now).out.length:=by
 have:=mono_foldl (mono_cut1 t now) e.slots.live {e with drains:=true,out:=e.out++[evDrain t]}
 simp only [List.length_append,List.length_singleton]at this
 unfold Eng.cut;omega
theorem mono_drain (e:Eng) (r:RoundM):e.out.length≤(e.drain r).out.length:=by
 unfold Eng.drain;split
 ·exact mono_cut _ _ _
 ·split
  ·exact mono_cut _ _ _
  ·exact Nat.le_refl _
theorem mono_report (e:Eng) (r:ReportM):e.out.length≤(e.report r).out.length:=by
 unfold Eng.report
 cases e.slots.slot r.id with
 | none=>exact Nat.le_refl _
 | some k=>
  dsimp only
  have h1:e.out.length≤(e.reported r k).out.length:=by
   unfold Eng.reported
   dsimp only
   have h2:e.out.length≤(if r.read then e.read k else e).out.length:=by
    split
    ·exact mono_read e k
    ·exact Nat.le_refl _
   split
   ·exact Nat.le_trans h2 (mono_write _ _ _)
   ·exact h2
  split
  ·rw [settle_out];exact h1
  ·exact h1
theorem mono_turn (e:Eng):e.out.length≤e.turn.2.out.length:=by
 unfold Eng.turn
 cases e.turns.begin.2 with
 | none=>exact Nat.le_refl _
 | some k=>
  dsimp only
  have h1:=mono_spend ((e.turns.begin.1.has.getD k 0).toNat+1) {e with turns:=e.turns.begin.1} k
  split
  ·rw [rest_out];exact h1
  ·exact h1
theorem mono_visit:∀(v:Nat) (e:Eng),e.out.length≤(Eng.visit v e).out.length
 | 0,_=>Nat.le_refl _
 | v+1,e=>by
  rw [Eng.visit];split
  ·exact Nat.le_trans (mono_turn e) (mono_visit v _)
  ·exact Nat.le_refl _
theorem mono_wakeAll (e:Eng):e.out.length≤e.wakeAll.out.length:=by
 unfold Eng.wakeAll
 exact mono_foldl (f:=fun(e:Eng) (t:Int×Nat)=>e.settle t.2) (fun e a=>mono_settle e a.2) _ {e with tm:=(tmDue e.tm.length e.tm e.clock).2}
theorem mono_halt (e:Eng):e.out.length≤e.halt.out.length:=by unfold Eng.halt;split <;>simp
def Eng.Fix (e e':Eng):Prop:=e'.s=e.s∧e'.scripts=e.scripts
theorem Eng.Fix.refl (e:Eng):e.Fix e:=⟨rfl,rfl⟩
theorem Eng.Fix.trans {a b c:Eng} (h:a.Fix b) (h':b.Fix c):a.Fix c:=⟨h'.1.trans h.1,h'.2.trans h.2⟩
theorem fix_settle (e:Eng) (k:Nat):e.Fix (e.settle k):=by unfold Eng.settle;cases e.seat k <;>exact⟨rfl,rfl⟩
theorem fix_step (e:Eng) (k:Nat):e.Fix (e.step k).2:=by
 unfold Eng.step
 cases e.seat k with
 | none=>exact⟨rfl,rfl⟩
 | some x=>
  dsimp only
  cases x.d.step e.clock with
  | none=>dsimp only;split <;>exact⟨rfl,rfl⟩
  | some y=>dsimp only;split <;>exact⟨rfl,rfl⟩
theorem fix_foldl {α:Type} {f:Eng→α→Eng} (hf:∀(e:Eng) (a:α),e.Fix (f e a)):∀(l:List α) (e:Eng),e.Fix (l.foldl f e)
 | [],e=>Eng.Fix.refl e
 | a::l,e=>(hf e a).trans (fix_foldl hf l _)
theorem fix_open (e:Eng) (n:Int):e.Fix (e.open n):=by
 unfold Eng.open;split
 ·exact⟨rfl,rfl⟩
 ·exact Eng.Fix.trans (b:={e with slots:=e.slots.open,seats:=_,out:=_}) ⟨rfl,rfl⟩ (fix_settle _ _)
theorem fix_offer (e:Eng) (o:OfferM):e.Fix (e.offer o):=by
 unfold Eng.offer
 cases e.slots.slot o.id with
 | none=>exact⟨rfl,rfl⟩
 | some k=>
  dsimp only
  cases e.seat k with
  | none=>exact⟨rfl,rfl⟩
  | some x=>dsimp only;split <;>exact⟨rfl,rfl⟩
theorem fix_cut1 (t:Int) (now:Bool) (e:Eng) (id:Int):e.Fix (e.cut1 t now id):=by
 unfold Eng.cut1
 cases e.slots.slot id with
 | none=>exact⟨rfl,rfl⟩
 | some k=>
  dsimp only
  cases e.seat k with
  | none=>exact⟨rfl,rfl⟩
  | some x=>
   dsimp only
   have h1:e.Fix (e.setSeat k (some {x with d:=x.d.cut t})):=⟨rfl,rfl⟩
   split
   ·exact h1.trans (fix_settle _ _)
   ·split
    ·exact(h1.trans (fix_step _ _)).trans (fix_settle _ _)
    ·exact h1.trans (fix_step _ _)
theorem fix_cut (e:Eng) (t:Int) (now:Bool):e.Fix (e.cut t now):=Eng.Fix.trans (b:={e with drains:=true,out:=e.out++[evDrain t]}) ⟨rfl,rfl⟩ (fix_foldl (fix_cut1 t now) _ _)
theorem fix_drain (e:Eng) (r:RoundM):e.Fix (e.drain r):=by
 unfold Eng.drain;split
 ·exact fix_cut _ _ _
 ·split
  ·exact fix_cut _ _ _
  ·exact Eng.Fix.refl e
theorem fix_read (e:Eng) (k:Nat):e.Fix (e.read k):=by
 cases hk:e.seat k with
 | none=>unfold Eng.read;rw [hk];exact⟨rfl,rfl⟩
 | some x=>
  by_cases h0:x.d.room=0
  ·unfold Eng.read;rw [hk];dsimp only;rw [if_pos h0];exact⟨rfl,rfl⟩
  ·rw [read_eq hk h0]
   have h1:e.Fix (e.read1 k x):=by unfold Eng.read1;split <;>exact⟨rfl,rfl⟩
   split
   ·exact h1.trans ⟨rfl,rfl⟩
   ·exact h1
theorem fix_write (e:Eng) (k:Nat) (n:Int):e.Fix (e.write k n):=by
 unfold Eng.write
 cases e.seat k with
 | none=>exact⟨rfl,rfl⟩
 | some x=>dsimp only;split <;>exact⟨rfl,rfl⟩
theorem fix_report (e:Eng) (r:ReportM):e.Fix (e.report r):=by
 unfold Eng.report
 cases e.slots.slot r.id with
 | none=>exact⟨rfl,rfl⟩
 | some k=>
  dsimp only
  have h1:e.Fix (e.reported r k):=by
   unfold Eng.reported
   dsimp only
   have h2:e.Fix (if r.read then e.read k else e):=by
    split
    ·exact fix_read e k
    ·exact Eng.Fix.refl e
   split
   ·exact h2.trans (fix_write _ _ _)
   ·exact h2
  split
  ·exact h1.trans (fix_settle _ _)
  ·exact h1
theorem fix_spend:∀(f:Nat) (e:Eng) (k:Nat),e.Fix (Eng.spend f e k).2
 | 0,e,_=>Eng.Fix.refl e
 | f+1,e,k=>by
  rw [Eng.spend]
  cases e.seat k with
  | none=>exact⟨rfl,rfl⟩
  | some x=>
   dsimp only
   split
   ·split
    ·have h1:e.Fix (({e with turns:=(e.turns.pay x.d.price).1}:Eng).step k).2:=Eng.Fix.trans (b:={e with turns:=(e.turns.pay x.d.price).1}) ⟨rfl,rfl⟩ (fix_step _ _)
     split
     ·exact h1.trans (fix_spend f _ k)
     ·exact h1
    ·exact⟨rfl,rfl⟩
   ·exact⟨rfl,rfl⟩
theorem fix_rest (e:Eng) (k:Nat):e.Fix (e.rest k):=by unfold Eng.rest;cases e.seat k <;>exact⟨rfl,rfl⟩
theorem fix_turn (e:Eng):e.Fix e.turn.2:=by
 unfold Eng.turn
 cases e.turns.begin.2 with
 | none=>exact⟨rfl,rfl⟩
 | some k=>
  dsimp only
  have h1:e.Fix (Eng.spend ((e.turns.begin.1.has.getD k 0).toNat+1) {e with turns:=e.turns.begin.1} k).2:=Eng.Fix.trans (b:={e with turns:=e.turns.begin.1}) ⟨rfl,rfl⟩ (fix_spend _ _ _)
  split
  ·exact h1.trans (fix_rest _ _)
  ·exact h1
theorem fix_wakeAll (e:Eng):e.Fix e.wakeAll:=by
 unfold Eng.wakeAll
 exact Eng.Fix.trans (b:={e with tm:=(tmDue e.tm.length e.tm e.clock).2}) ⟨rfl,rfl⟩ (fix_foldl (f:=fun(e:Eng) (t:Int×Nat)=>e.settle t.2) (fun e a=>fix_settle e a.2) _ _)
theorem fix_told (e:Eng) (r:RoundM):e.Fix (e.told r):=by
 unfold Eng.told
 have h0:e.Fix (e.start r):=⟨rfl,rfl⟩
 exact(((h0.trans (fix_foldl fix_open _ _)).trans (fix_foldl fix_offer _ _)).trans (fix_drain _ r)).trans (fix_foldl fix_report _ _)
theorem tmDue_len:∀(f:Nat) (tm:List Int) (now:Int),(tmDue f tm now).1.length≤f
 | 0,_,_=>Nat.le_refl _
 | f+1,tm,now=>by
  rw [tmDue]
  cases tmMin tm 0 with
  | none=>exact Nat.zero_le _
  | some y=>
   dsimp only
   split
   ·have:=tmDue_len f (tm.set y.2 never) now
    simp only [List.length_cons];omega
   ·exact Nat.zero_le _
class Bes {X:Type} (C:Nat→X→Chunk) (cs:St) (b:Nat) (put:Chunk→St) (A:Chunk):Prop where
 h:∃i j,i≠j∧i<cs.length∧cs[j]? =some A∧∀c,put c=cs.set i c
instance bes0 {X:Type} {C:Nat→X→Chunk} {cs:St} {b:Nat} {x:X} {A:Chunk} [q:In cs A]:Bes C (C b x::cs) b (fun c=>c::cs) A:=⟨by
 obtain⟨j,hj,he⟩:=List.mem_iff_getElem.1 q.h
 exact⟨0,j+1,by omega,by simp,by rw [List.getElem?_cons_succ,List.getElem?_eq_getElem hj,he],fun c=>rfl⟩⟩
instance bes2 {X:Type} {C:Nat→X→Chunk} {cs:St} {b:Nat} {put:Chunk→St} {A d:Chunk} [q:Bes C cs b put A]:Bes C (d::cs) b (fun c=>d::put c) A:=⟨by
 obtain⟨i,j,h1,h2,h3,h4⟩:=q.h
 exact⟨i+1,j+1,by omega,by simp;omega,by rw [List.getElem?_cons_succ];exact h3,fun c=>by simp [h4]⟩⟩
theorem Ob.fnA {X:Type} {C:Nat→X→Chunk} {cs:St} {b:Nat} {x:X} {put:Chunk→St} {A:Chunk} (o:Ob C cs b x put) (q:Bes C cs b put A) {g:FuncId} {args:List Value} {K:Value→SP} (parts:St) (hp:parts.flatten=C b x)
  (h:∀F,In F A→Go.Proofs.YtbjlfobjngogkaaGreatDoor.fn g args (fun v c=>∃parts',Imp c (parts'++F)∧K v (put parts'.flatten)) (parts++F)):Go.Proofs.YtbjlfobjngogkaaGreatDoor.fn g args K cs:=by
 obtain⟨i,h1,h2⟩:=o.h
 obtain⟨i',j,g1,g2,g3,g4⟩:=q.h
 have hi:i'=i:=by
  have h3:=lt_of_get h1
  have e:=(h2 (List.replicate ((cs.flatten).length+1) (0,.cells #[] 0))).symm.trans (g4 (List.replicate ((cs.flatten).length+1) (0,.cells #[] 0)))
  rcases Nat.decEq i' i with hne | he
  ·exfalso
   have e2:=congrArg (fun l:St=>l[i]?) e
   simp only [List.getElem?_set_self h3,List.getElem?_set_ne hne]at e2
   rw [h1]at e2
   have e3:=congrArg List.length (Option.some.inj e2)
   rw [List.length_replicate]at e3
   have e4:(C b x).length≤cs.flatten.length:=by
    have:=List.mem_of_getElem? h1
    exact(List.sublist_flatten_of_mem this).length_le
   omega
  ·exact he
 subst hi
 have hA:In (cs.set i' []) A:=⟨List.mem_of_getElem? (i:=j) (by rw [List.getElem?_set_ne g1];exact g3)⟩
 refine fn_focus i' parts (by rw [hp];exact h1) ?_
 refine⟨(h (cs.set i' []) hA).enters,fun E w hw=>Calls.mono ((h (cs.set i' []) hA).calls E w hw) ?_⟩
 rintro e w' ⟨v,c1,he,hw1,parts',q1,q2⟩
 exact⟨v,c1,he,hw1,[],parts',q1,by rw [h2]at q2;exact q2⟩
instance (priority:=30) rowVie {α:Type} {T sz n c:Nat} {a:Option Addr} {e:Enc α sz} {l:List α} {ch:Chunk} [r:Row T sz a n c e l ch]:Vie T sz a n c e l ch:=⟨Row.rd r (cs:=[ch]) (put:=fun c=>[c]) inferInstance⟩
instance cvBound {cs:St} {K:Value→SP} {f:Nat} {v:Value} {args:List Value}:Go1 (cv (.func (.func f) ⟨[v]⟩ ⟨[]⟩) args K cs) (fn f (v::args) K cs):=⟨fun h=>⟨f,⟨[v]⟩,⟨[]⟩,rfl,by simpa [fn]using h⟩⟩
@[reducible] def encOff:Enc OfferM 3:=⟨fun x=>[.int .i64 x.id,.string x.bytes,.bool x.eof],by omega,fun _=>rfl⟩
@[reducible] def encRep:Enc ReportM 4:=⟨fun x=>[.int .i64 x.id,.bool x.read,.bool x.write,.int .i64 x.accept],by omega,fun _=>rfl⟩
section
variable {cs:St} {b:Nat} {x:En} {put:Chunk→St} {K:Value→SP} {A:Chunk} {a:Option Addr} {n c:Nat}
instance c87 {l:List Int} [o:Ob engC cs b x put] [v:Vie 3 1 a n c encI64 l A] [q:Bes engC cs b put A]:Go1 (fn 87 [.slice a n c,.func (.func 88) ⟨[.pointer (some (ad b 0))]⟩ ⟨[]⟩] K cs)
  ((n≤1000000000∧(l.foldl Eng.open x.m).out.length<1000000000000)∧∀x',En.m x'=l.foldl Eng.open x.m→K undef (put (engC b x'))):=⟨fun⟨⟨hn,hl⟩,h⟩=>o.fnA q [engC b x] (by simp) fun F hA=>f87 (by
 unfold s87
 have hlen:=v.h.len
 refine lp (fun y:Nat×En=>[.int .i64 y.1]) (fun y=>engC b y.2::F) (fun y=>y.1≤n∧(l.drop y.1).foldl Eng.open y.2.m=l.foldl Eng.open x.m) (fun y=>n-y.1) (0,x) rfl (Imp.refl _) ⟨Nat.zero_le _,by rw [List.drop_zero]⟩ ?_
 rintro⟨i,xi⟩ ⟨i1,i2⟩
 dsimp only at *
 refine go ?_
 simp only [decide_eq_true_eq,decide_eq_false_iff_not,Int.toNat_natCast,id]
 refine⟨fun c0=>⟨by omega,fun z hz=> ?_⟩,fun c0=> ?_⟩
 ·have hil:=lt_of_get hz
  have ed:l.drop i=z::l.drop (i+1):=by
   rw [List.drop_eq_getElem_cons hil];rw [List.getElem?_eq_getElem hil]at hz;rw [Option.some.inj hz]
  rw [ed,List.foldl_cons]at i2
  have h1:=mono_foldl mono_open (l.drop (i+1)) (xi.m.open z)
  have h2:=mono_open xi.m z
  rw [i2]at h1
  rw [w64_succ (by omega)]
  refine⟨by omega,fun x' hx'=>⟨(i+1,x'),rfl,Imp.refl _,⟨by omega,by rw [hx'];exact i2⟩,by simp only;omega⟩⟩
 ·have ed:l.drop i=[]:=List.drop_eq_nil_of_le (by omega)
  rw [ed]at i2
  exact eDone xi (Imp.refl _) (h xi i2))⟩
instance c89 {l:List OfferM} [o:Ob engC cs b x put] [v:Vie 85 3 a n c encOff l A] [q:Bes engC cs b put A]:Go1 (fn 89 [.slice a n c,.func (.func 90) ⟨[.pointer (some (ad b 0))]⟩ ⟨[]⟩] K cs)
  ((n≤1000000000∧∃N,x.m.qle N∧N+offSum l≤1000000000000)∧∀x',En.m x'=l.foldl Eng.offer x.m→K undef (put (engC b x'))):=⟨fun⟨⟨hn,N,hq,hN⟩,h⟩=>o.fnA q [engC b x] (by simp) fun F hA=>f89 (by
 unfold s89
 have hlen:=v.h.len
 refine lp (fun y:Nat×En=>[.int .i64 y.1]) (fun y=>engC b y.2::F) (fun y=>y.1≤n∧(l.drop y.1).foldl Eng.offer y.2.m=l.foldl Eng.offer x.m∧y.2.m.qle (N+offSum (l.take y.1))) (fun y=>n-y.1) (0,x) rfl (Imp.refl _) ⟨Nat.zero_le _,by rw [List.drop_zero],hq⟩ ?_
 rintro⟨i,xi⟩ ⟨i1,i2,i3⟩
 dsimp only at *
 refine go ?_
 simp only [decide_eq_true_eq,decide_eq_false_iff_not,Int.toNat_natCast]
 refine⟨fun c0=>⟨by omega,fun z hz b1=> ?_⟩,fun c0=> ?_⟩
 ·have hil:=lt_of_get hz
  have ed:l.drop i=z::l.drop (i+1):=by
   rw [List.drop_eq_getElem_cons hil];rw [List.getElem?_eq_getElem hil]at hz;rw [Option.some.inj hz]
  have et:l.take (i+1)=l.take i++[z]:=by
   rw [List.take_succ_eq_append_getElem hil];rw [List.getElem?_eq_getElem hil]at hz;rw [Option.some.inj hz]
  have es:offSum (l.take (i+1))=offSum (l.take i)+z.bytes.size:=by rw [et];simp [offSum]
  have esl:offSum (l.take i)≤offSum l:=by
   have hh:=congrArg offSum (List.take_append_drop i l)
   unfold offSum at hh ⊢
   rw [List.map_append,List.sum_append]at hh
   omega
  rw [ed,List.foldl_cons]at i2
  rw [w64_succ (by omega)]
  refine⟨fun k y hk=> ?_,fun x' hx'=>⟨(i+1,x'),rfl,drp,⟨by omega,by rw [hx'];exact i2,?_⟩,by simp only;omega⟩⟩
  ·have:=i3 k y hk;omega
  ·rw [hx',es,←Nat.add_assoc];exact qle_offer i3 z
 ·have ed:l.drop i=[]:=List.drop_eq_nil_of_le (by omega)
  rw [ed]at i2
  exact eDone xi (Imp.refl _) (h xi i2))⟩
instance c92 {l:List ReportM} [o:Ob engC cs b x put] [v:Vie 87 4 a n c encRep l A] [q:Bes engC cs b put A]:Go1 (fn 92 [.slice a n c,.func (.func 93) ⟨[.pointer (some (ad b 0))]⟩ ⟨[]⟩] K cs)
  ((n≤1000000000∧x.m.qle 1000000000000∧(l.foldl Eng.report x.m).out.length<999999999990)∧∀x',En.m x'=l.foldl Eng.report x.m→K undef (put (engC b x'))):=⟨fun⟨⟨hn,hq,hl⟩,h⟩=>o.fnA q [engC b x] (by simp) fun F hA=>f92 (by
 unfold s92
 have hlen:=v.h.len
 refine lp (fun y:Nat×En=>[.int .i64 y.1]) (fun y=>engC b y.2::F) (fun y=>y.1≤n∧(l.drop y.1).foldl Eng.report y.2.m=l.foldl Eng.report x.m∧y.2.m.qle 1000000000000) (fun y=>n-y.1) (0,x) rfl (Imp.refl _) ⟨Nat.zero_le _,by rw [List.drop_zero],hq⟩ ?_
 rintro⟨i,xi⟩ ⟨i1,i2,i3⟩
 dsimp only at *
 refine go ?_
 simp only [decide_eq_true_eq,decide_eq_false_iff_not,Int.toNat_natCast]
 refine⟨fun c0=>⟨by omega,fun z hz b1=> ?_⟩,fun c0=> ?_⟩
 ·have hil:=lt_of_get hz
  have ed:l.drop i=z::l.drop (i+1):=by
   rw [List.drop_eq_getElem_cons hil];rw [List.getElem?_eq_getElem hil]at hz;rw [Option.some.inj hz]
  rw [ed,List.foldl_cons]at i2
  have h1:=mono_foldl mono_report (l.drop (i+1)) (xi.m.report z)
  have h2:=mono_report xi.m z
  rw [i2]at h1
  rw [w64_succ (by omega)]
  refine⟨⟨by omega,i3⟩,fun x' hx'=>⟨(i+1,x'),rfl,drp,⟨by omega,by rw [hx'];exact i2,?_⟩,by simp only;omega⟩⟩
  rw [hx'];exact qle_report i3 z
 ·have ed:l.drop i=[]:=List.drop_eq_nil_of_le (by omega)
  rw [ed]at i2
  exact eDone xi (Imp.refl _) (h xi i2))⟩
instance c94 {l:List (Int×Int)} [o:Ob engC cs b x put] [v:Vie 191 2 a n c encE l A] [q:Bes engC cs b put A]:Go1 (fn 94 [.slice a n c,.func (.func 96) ⟨[.pointer (some (ad b 0))]⟩ ⟨[]⟩] K cs)
  ((n≤1000000000∧∀z∈l,0≤z.2∧∃y,x.m.seat z.2.toNat=some y)∧∀x',En.m x'=l.foldl (fun e z=>e.settle z.2.toNat) x.m→K undef (put (engC b x'))):=⟨fun⟨⟨hn,hs⟩,h⟩=>o.fnA q [engC b x] (by simp) fun F hA=>f94 (by
 unfold s94
 have hlen:=v.h.len
 refine lp (fun y:Nat×En=>[.int .i64 y.1]) (fun y=>engC b y.2::F) (fun y=>y.1≤n∧(l.drop y.1).foldl (fun e z=>e.settle z.2.toNat) y.2.m=l.foldl (fun e z=>e.settle z.2.toNat) x.m∧∀k,y.2.m.seat k=x.m.seat k) (fun y=>n-y.1) (0,x) rfl (Imp.refl _) ⟨Nat.zero_le _,by rw [List.drop_zero],fun _=>rfl⟩ ?_
 rintro⟨i,xi⟩ ⟨i1,i2,i3⟩
 dsimp only at *
 refine go ?_
 simp only [decide_eq_true_eq,decide_eq_false_iff_not,Int.toNat_natCast]
 refine⟨fun c0=>⟨by omega,fun z hz b1=> ?_⟩,fun c0=> ?_⟩
 ·have hil:=lt_of_get hz
  have ed:l.drop i=z::l.drop (i+1):=by
   rw [List.drop_eq_getElem_cons hil];rw [List.getElem?_eq_getElem hil]at hz;rw [Option.some.inj hz]
  rw [ed,List.foldl_cons]at i2
  obtain⟨z0,y,hy⟩:=hs z (List.mem_of_getElem? hz)
  obtain⟨s,hsg,_⟩:=xi.seat_iff.1 ((i3 z.2.toNat).trans hy)
  rw [w64_succ (by omega)]
  refine⟨⟨z0,s,hsg⟩,fun x' hx' _=>⟨(i+1,x'),rfl,drp,⟨by omega,by rw [hx'];exact i2,fun k=> ?_⟩,by simp only;omega⟩⟩
  rw [hx',settle_seat];exact i3 k
 ·have ed:l.drop i=[]:=List.drop_eq_nil_of_le (by omega)
  rw [ed]at i2
  exact eDone xi (Imp.refl _) (h xi i2))⟩
end
@[reducible] def roCells (t:Int) (a1 a2 a3:Option Addr) (n1 n2 n3 c1 c2 c3:Nat) (dr:Int) (ab:Bool):List Value:=[.int .i64 t,.slice a1 n1 c1,.slice a2 n2 c2,.slice a3 n3 c3,.int .i64 dr,.bool ab]
section
variable {cs:St} {b:Nat} {x:En} {put:Chunk→St} {K:Value→SP} {A:Chunk}
instance c28 {t dr:Int} {ab:Bool} {a1 a2 a3:Option Addr} {n1 n2 n3 c1 c2 c3:Nat} {l1:List Int} {l2:List OfferM} {l3:List ReportM} [o:Ob engC cs b x put] [v1:Vie 3 1 a1 n1 c1 encI64 l1 A] [v2:Vie 85 3 a2 n2 c2 encOff l2 A] [v3:Vie 87 4 a3 n3 c3 encRep l3 A] [q:Bes engC cs b put A]:
  Go1 (fn 28 [.pointer (some (ad b 0)),.agg ⟨[.int .i64 t,.slice a1 n1 c1,.slice a2 n2 c2,.slice a3 n3 c3,.int .i64 dr,.bool ab]⟩] K cs)
   (((t≤never∧dr≤never)∧(n1≤1000000000∧n2≤1000000000∧n3≤1000000000)∧(x.m.round ⟨t,l1,l2,l3,dr,ab⟩).out.length<999999999990∧∃N,x.m.qle N∧N+offSum l2≤1000000000000)∧
    ∀x':En,En.m x'=x.m.round ⟨t,l1,l2,l3,dr,ab⟩→K (.slice x'.oa x'.on x'.oc) (put (engC b x'))):=⟨fun⟨⟨⟨ht,hd⟩,⟨hn1,hn2,hn3⟩,hl,N,hq,hN⟩,h⟩=>o.fnA q (eParts b x) rfl fun F hA=>f28 (by
 have hnv:=nev
 have hc1:=x.ok.c1
 generalize hr:(⟨t,l1,l2,l3,dr,ab⟩:RoundM)=r at *
 have er:r.opens=l1∧r.offers=l2∧r.reports=l3∧r.drain=dr∧r.abort=ab∧r.ticks=t:=by subst hr;exact⟨rfl,rfl,rfl,rfl,rfl,rfl⟩
 obtain⟨er1,er2,er3,er4,er5,er6⟩:=er
 generalize hm1:x.m.start r=m1 at *
 have hm1':m1=x.m.start r:=hm1.symm
 generalize hm2:l1.foldl Eng.open m1=m2 at *
 generalize hm3:l2.foldl Eng.offer m2=m3 at *
 generalize hm4:m3.drain r=m4 at *
 generalize hm5:l3.foldl Eng.report m4=m5 at *
 have htold:x.m.told r=m5:=by unfold Eng.told;rw [er1,er2,er3,hm1,hm2,hm3,hm4,hm5]
 generalize hm6:m5.wakeAll=m6 at *
 generalize hm7:Eng.visit x.m.s.visits.toNat m6=m7 at *
 have hround:x.m.round r=m7.halt:=by unfold Eng.round;rw [htold,hm6,hm7]
 rw [hround]at hl h
 have g7:m7.out.length<999999999990:=Nat.lt_of_le_of_lt (mono_halt m7) hl
 have g6:m6.out.length<999999999990:=by rw [←hm7]at g7;exact Nat.lt_of_le_of_lt (mono_visit _ _) g7
 have g5:m5.out.length<999999999990:=by rw [←hm6]at g6;exact Nat.lt_of_le_of_lt (mono_wakeAll _) g6
 have g4:m4.out.length<999999999990:=by rw [←hm5]at g5;exact Nat.lt_of_le_of_lt (mono_foldl mono_report _ _) g5
 have g3:m3.out.length<999999999990:=by rw [←hm4]at g4;exact Nat.lt_of_le_of_lt (mono_drain _ _) g4
 have g2:m2.out.length<999999999990:=by rw [←hm3]at g3;exact Nat.lt_of_le_of_lt (mono_foldl mono_offer _ _) g3
 have q1:m1.qle N:=by rw [hm1'];exact hq
 have q2:m2.qle N:=by rw [←hm2];exact qle_foldl (fun e a h=>qle_open h a) _ _ q1
 have q3:m3.qle (N+offSum l2):=by rw [←hm3];exact qle_offers _ _ _ q2
 have q4:m4.qle 1000000000000:=by rw [←hm4];exact qle_mono (qle_drain q3 r) hN
 unfold s28
 simp only [eParts,List.cons_append,List.nil_append]
 refine go fun b1=>⟨⟨by omega,ht⟩,?_⟩
 have hck:(if 9223372036854775806<tadd x.m.clock t then 9223372036854775806 else tadd x.m.clock t)=min (tadd x.m.clock r.ticks) (never-1):=by rw [er6];omega
 rw [hck]
 have hst:=start_ok x.ok r
 let x0:En:={x with m:={x.m with clock:=min (tadd x.m.clock r.ticks) (never-1),out:=[]},rounds:=w64 (x.rounds+1),oa:=none,on:=0,oc:=0,och:=[],orow:=⟨Sl.nil⟩,ok:={hst with}}
 refine fn_imp (cs':=engC b x0::bk b1 73 (roCells t a1 a2 a3 n1 n2 n3 c1 c2 c3 dr ab)::F) (Imp.trans (by dsimp only [eParts,eCells,x0,List.cons_append,List.nil_append];exact drp) (eShut (x:=x0))) ?_
 refine go ⟨by show(0:Nat)<_;omega,fun x1 hx1 _=> ?_⟩
 have e1:x1.m=m1:=by rw [hx1,hm1'];rfl
 refine go ⟨⟨hn1,by rw [e1,hm2];omega⟩,fun x2 hx2=> ?_⟩
 rw [e1,hm2]at hx2
 refine go ⟨⟨hn2,N,by rw [hx2];exact q2,hN⟩,fun x3 hx3=> ?_⟩
 rw [hx2,hm3]at hx3
 have hdr:∀e:Eng,e.drain ⟨0,[],[],[],dr,ab⟩=e.drain r:=fun e=>by unfold Eng.drain;rw [er4,er5]
 refine go ⟨⟨hd,by rw [hdr,hx3,hm4];omega⟩,fun x4 hx4=> ?_⟩
 rw [hdr,hx3,hm4]at hx4
 refine go ⟨⟨hn3,by rw [hx4];exact q4,by rw [hx4,hm5];exact g5⟩,fun x5 hx5=> ?_⟩
 rw [hx4,hm5]at hx5
 refine go ?_
 refine fn_imp (cs':=eParts b x5++(bk b1 73 (roCells t a1 a2 a3 n1 n2 n3 c1 c2 c3 dr ab)::F)) (eLay (x:=x5)) ?_
 simp only [eParts,List.cons_append,List.nil_append]
 refine go ⟨x5.m.tm,x5.r3,fun hx' al cl chl h1 h2 rl=> ?_⟩
 have etl:=x5.r3.cns.tl
 rw [←etl]at h1 rl ⊢
 obtain⟨d1,d2,d3,d4⟩:=tmDue_facts x5.m.tm.length x5.m.tm x5.m.clock x5.ok.tv
 have hok6:Eng.Ok {x5.m with tm:=(tmDue x5.m.tm.length x5.m.tm x5.m.clock).2}:={x5.ok with l4:=d1.trans x5.ok.l4,tm:=fun k hk=>x5.ok.tm k (d3 k hk),tv:=d2}
 let x6:En:={x5 with m:={x5.m with tm:=(tmDue x5.m.tm.length x5.m.tm x5.m.clock).2},hx:=hx',r3:=h1,ok:=hok6}
 refine fn_imp (cs':=engC b x6::chl::bk b1 73 (roCells t a1 a2 a3 n1 n2 n3 c1 c2 c3 dr ab)::F) (Imp.trans (by dsimp only [eParts,eCells,x6,List.cons_append,List.nil_append];exact drp) (eShut (x:=x6))) ?_
 have hll:=rl.len
 have hd5:(tmDue x5.m.tm.length x5.m.tm x5.m.clock).1.length≤1000000000:=by
  have h1:=tmDue_len x5.m.tm.length x5.m.tm x5.m.clock
  have h2:=x5.ok.l4
  have h3:=good_facts x5.ok.sg
  omega
 refine go ⟨⟨hd5,fun z hz=> ?_⟩,fun x7 hx7=> ?_⟩
 ·obtain⟨y,hy,rfl⟩:=List.mem_map.1 hz
  obtain⟨y1,y2⟩:=d4 y hy
  obtain⟨sx,hsx⟩:=x5.ok.tm y.2 y1
  exact⟨by simp [fromNat],sx,by show x5.m.seat _=_;simpa [fromNat]using hsx⟩
 have e7:x7.m=m6:=by
  rw [hx7,←hm6,List.foldl_map,←hx5]
  rfl
 have es7:x7.m.s=x.m.s:=by
  rw [e7,←hm6,←htold]
  exact((fix_told x.m r).trans (fix_wakeAll _)).1
 have hvis:=good_facts x.ok.sg
 refine⟨fun l cx=>∃xv:En,xv.m=m7∧Imp cx (engC b xv::F),?_,?_⟩
 ·rintro l cx ⟨xv,hv,hi⟩
  refine⟨_,hi.trans (eLay (x:=xv)),?_⟩
  simp only [eParts,List.cons_append,List.nil_append]
  have fin0:m7.halt=m7→∀{c:St},Imp c (eParts b xv++F)→∃parts',Imp c (parts'++F)∧K (.slice xv.oa xv.on xv.oc) (put parts'.flatten):=fun hh c hi=>eDone xv (hi.trans eShut) (h xv (by rw [hh,hv]))
  have esl:xv.slx.m.live=m7.slots.live:=by rw [xv.r1,hv]
  refine go ⟨fun c1=>⟨fun c2 al nl cl chl rl=> ?_,fun c2=> ?_⟩,fun c1=> ?_⟩
  ·rw [esl]at rl
   have hnl:=rl.len
   simp only [beq_iff_eq,beq_eq_false_iff_ne,ne_eq]
   have hcond:m7.drains=true∧m7.stopped=false:=by rw [←hv];exact⟨c1,by simpa using c2⟩
   refine⟨fun c3=> ?_,fun c3=> ?_⟩
   ·have hlv:m7.slots.live=[]:=List.length_eq_zero_iff.1 (by omega)
    have hh:m7.halt={m7 with stopped:=true,out:=m7.out++[evStop]}:=by unfold Eng.halt;rw [hcond.1,hcond.2,hlv];rfl
    let xs:En:={xv with m:={xv.m with stopped:=true},ok:={xv.ok with}}
    refine fn_imp (cs':=engC b xs::F) (Imp.trans (by dsimp only [eParts,eCells,xs,List.cons_append,List.nil_append];exact drp) (eShut (x:=xs))) ?_
    refine go ⟨by show xv.m.out.length<_;rw [hv];omega,fun xz hxz _=> ?_⟩
    refine go ?_
    refine eDone xz (Imp.refl _) (h xz ?_)
    rw [hxz,hh,←hv];rfl
   ·refine go (fin0 ?_ ?_)
    case refine_2=>dsimp only [eParts,List.cons_append,List.nil_append];exact drp
    unfold Eng.halt
    rw [if_neg]
    rw [hcond.1,hcond.2]
    intro hc
    have hle:m7.slots.live=[]:=by simpa using hc
    rw [hle]at hnl;simp at hnl;omega
  ·refine fin0 ?_ (Imp.refl _)
   unfold Eng.halt
   rw [if_neg]
   rw [←hv]
   have:xv.m.stopped=true:=by simpa using c2
   rw [this];simp
  ·refine fin0 ?_ (Imp.refl _)
   unfold Eng.halt
   rw [if_neg]
   rw [←hv,c1];simp
 ·refine lp (fun y:Nat×En=>[.int .i64 y.1]) (fun y=>engC b y.2::F) (fun y=>(y.1:Int)≤x.m.s.visits∧Eng.visit (x.m.s.visits.toNat-y.1) y.2.m=m7∧y.2.m.s=x.m.s) (fun y=>x.m.s.visits.toNat-y.1) (0,x7) rfl drp ⟨by simp only;omega,by simp only [Nat.sub_zero];rw [e7];exact hm7,es7⟩ ?_
  rintro⟨i,xi⟩ ⟨i1,i2,i3⟩
  dsimp only at *
  refine go ?_
  rw [i3]
  simp only [decide_eq_true_eq,decide_eq_false_iff_not]
  refine⟨fun c0=> ?_,fun c0=>⟨xi,?_,Imp.refl _⟩⟩
  ·obtain⟨v,hv⟩:∃v,x.m.s.visits.toNat-i=v+1:=⟨x.m.s.visits.toNat-i-1,by omega⟩
   rw [hv,Eng.visit]at i2
   have hgt:xi.m.turn.2.out.length<1000000000000:=by
    split at i2
    ·have:=mono_visit v xi.m.turn.2;rw [i2]at this;omega
    ·rename_i hc
     have:xi.m.turn.2=xi.m:=by
      unfold Eng.turn at hc ⊢
      cases hb:xi.m.turns.begin.2 with
      | none=>rfl
      | some k=>rw [hb]at hc;dsimp only at hc;split at hc <;>exact absurd rfl hc
     rw [this,i2];omega
   rw [w64_succ (by omega)]
   refine⟨hgt,fun xn hxn=>⟨fun c1=> ?_,fun c1=> ?_⟩⟩
   ·rw [if_pos c1]at i2
    refine⟨(i+1,xn),rfl,Imp.refl _,⟨by simp only;omega,?_,?_⟩,by simp only;omega⟩
    ·show Eng.visit (x.m.s.visits.toNat-(i+1)) xn.m=m7
     rw [hxn,show x.m.s.visits.toNat-(i+1)=v by omega];exact i2
    ·show xn.m.s=x.m.s
     rw [hxn,(fix_turn xi.m).1,i3]
   ·rw [if_neg (by simp [c1])]at i2
    refine⟨xn,?_,Imp.refl _⟩
    rw [hxn,←i2]
    unfold Eng.turn at c1 ⊢
    cases hb:xi.m.turns.begin.2 with
    | none=>rfl
    | some k=>rw [hb]at c1;dsimp only at c1;split at c1 <;>cases c1
  ·have:x.m.s.visits.toNat-i=0:=by omega
   rw [this,Eng.visit]at i2
   exact i2)⟩
end
instance bd174:BdT 174 [(0,6),(6,1),(7,1),(8,1),(9,1),(10,1),(11,1),(12,1),(13,1),(14,1),(15,1),(16,1)] [.int .i64 0,.int .i64 0,.int .i64 0,.int .i64 0,.int .i64 0,.int .i64 0,.slice none 0 0,.pointer none,.slice none 0 0,.pointer none,.pointer none,.map none,.int .i64 0,.int .i64 0,.bool false,.bool false,.slice none 0 0]:=⟨by kernel_rfl⟩
instance:ZeT 198 (.pointer none):=⟨by kernel_rfl⟩
section
variable {cs:St} {K:Value→SP}
theorem new_mk {su:Setup} (hg:good su=true) {cx G:St} {bq slb sb tb hb mr:Nat} {slx:SlX} {tx:TuX} {hx:HpW} {M:Mp mvI} (hs:SlX.m slx=Slots.new su.live) (ht:TuX.m tx=Turns.new su.live su.quantum) (hh:HpI hx (List.replicate (min (max su.live 1) 1024).toNat never)) (hM:M.l=[])
  [r:RdB cx bq 174 [.int .i64 su.live,.int .i64 su.ring,.int .i64 su.win,.int .i64 su.out,.int .i64 su.quantum,.int .i64 su.visits,.slice none 0 0,.pointer (some (ad slb 0)),.slice (some (ad sb 0)) su.live.toNat su.live.toNat,.pointer (some (ad tb 0)),.pointer (some (ad hb 0)),.map (some mr),.int .i64 0,.int .i64 0,.bool false,.bool false,.slice none 0 0]]
  (hi:Imp cx (bk bq 174 [.int .i64 su.live,.int .i64 su.ring,.int .i64 su.win,.int .i64 su.out,.int .i64 su.quantum,.int .i64 su.visits,.slice none 0 0,.pointer (some (ad slb 0)),.slice (some (ad sb 0)) su.live.toNat su.live.toNat,.pointer (some (ad tb 0)),.pointer (some (ad hb 0)),.map (some mr),.int .i64 0,.int .i64 0,.bool false,.bool false,.slice none 0 0]::slotsC slb slx::bk sb 198 (List.replicate su.live.toNat (.pointer none))::turnsC tb tx::hpC hb hx::mpC mvI mr M::G)):
  ∃(bq':Nat) (x0:En),([.pointer (some (ad bq 0))]:List Value)=[.pointer (some (ad bq' 0))]∧x0.m=Eng.new su []∧x0.scs.c=0∧Imp cx (engC bq' x0::G):=by
 have hgf:=good_facts hg
 have hlv:(min (max su.live 1) 1024).toNat=su.live.toNat:=by omega
 have hok:=new_eng_ok (scripts:=[]) hg (by simp) (by simp)
 let x0:En:={
  m:=Eng.new su [],scs:=⟨[],none,0,0,[],⟨[],rds_nil,rfl,by simp⟩⟩,slb:=slb,slx:=slx,sra:=some (ad sb 0),sn:=su.live.toNat,src:=su.live.toNat,srch:=bk sb 198 (List.replicate su.live.toNat (.pointer none)),seats:=List.replicate su.live.toNat none
  tb:=tb,tx:=tx,hb:=hb,hx:=hx,mr:=mr,M:=M,rounds:=0,oa:=none,on:=0,oc:=0,och:=[]
  srow:=⟨by
   have e1:(List.map ptrS (List.replicate su.live.toNat none)).flatMap encP.f=List.replicate su.live.toNat (.pointer none):=by
    generalize su.live.toNat=n
    induction n with
    | zero=>rfl
    | succ n ih=>rw [List.replicate_succ,List.map_cons,List.flatMap_cons,ih];rfl
   rw [e1]
   have:=Sl.mk (T:=198) (sz:=1) sb su.live.toNat su.live.toNat [] (List.replicate su.live.toNat (.pointer none)) [] (by simp) (by simp) (Nat.le_refl _) (by omega)
   simpa using this⟩
  orow:=⟨Sl.nil⟩
  r0:=rfl
  r1:=hs
  r2:=ht
  r3:=by rw [hlv]at hh;exact hh
  r4:=by simp [Eng.new]
  ok:=hok}
 refine⟨bq,x0,rfl,rfl,rfl,hi.trans (Imp.trans ?_ (eShut (x:=x0)))⟩
 have e1:seatsC x0.seats=[]:=by
  show seatsC (List.replicate su.live.toNat none)=[]
  generalize su.live.toNat=n
  induction n with
  | zero=>rfl
  | succ n ih=>rw [List.replicate_succ];show soC none++seatsC _=[];rw [ih];rfl
 dsimp only [eParts]
 rw [e1]
 dsimp only [x0,eCells,Eng.new,List.cons_append,List.nil_append]
 exact drp
instance c26 {su:Setup} {a:Option Addr} {n c:Nat} {ps:List PrM} [r:PrsR cs a n c ps]:Go1 (fn 26 [.agg ⟨suC su⟩,.slice a n c] K cs)
  ((∀p∈ps,p.Fit)∧(good su=false→K (.tuple ⟨[.pointer none,.int .i64 1]⟩) cs)∧(good su=true→64<n→K (.tuple ⟨[.pointer none,.int .i64 4]⟩) cs)∧(good su=true→n≤64→∀b x,En.m x=Eng.new su ps→K (.tuple ⟨[.pointer (some (ad b 0)),.int .i64 0]⟩) (engC b x::cs))):=⟨fun⟨hf,h1,h2,h3⟩=>up0 (f26 (by
 obtain⟨L,k1,k2,k3⟩:=r.h
 have rw1:Rw 45 4 cs a n c encPr L:=⟨k1⟩
 have hn:=k1.len
 have hln:ps.length=n:=by rw [←k2,List.length_map,hn]
 unfold s26
 refine go fun b1=>⟨fun c1=>fin (h1 (by simpa using c1)),fun c1=> ?_⟩
 have hg:good su=true:=by simpa using c1
 have hgf:=good_facts hg
 refine⟨fun c2=>fin (h2 hg (by simp at c2;omega)),fun c2=> ?_⟩
 have hn64:n≤64:=by simp at c2;omega
 refine⟨fun l cx=>∃(bq:Nat) (x0:En),l=[.pointer (some (ad bq 0))]∧x0.m=Eng.new su []∧x0.scs.c=0∧Imp cx (engC bq x0::bk b1 23 (suC su)::cs),?_,?_⟩
 ·rintro l cx ⟨bq,x0,rfl,hx0,hon,hi⟩
  refine⟨_,hi,?_⟩
  refine go ?_
  refine lp (fun y:Nat×Option Addr×Nat×Chunk×Chunk×List PrV=>[.int .i64 y.1])
   (fun y=>y.2.2.2.1::bk bq 174 [.int .i64 x0.m.s.live,.int .i64 x0.m.s.ring,.int .i64 x0.m.s.win,.int .i64 x0.m.s.out,.int .i64 x0.m.s.quantum,.int .i64 x0.m.s.visits,.slice y.2.1 y.1 y.2.2.1,.pointer (some (ad x0.slb 0)),.slice x0.sra x0.sn x0.src,.pointer (some (ad x0.tb 0)),.pointer (some (ad x0.hb 0)),.map (some x0.mr),.int .i64 x0.m.clock,.int .i64 x0.rounds,.bool x0.m.drains,.bool x0.m.stopped,.slice x0.oa x0.on x0.oc]::y.2.2.2.2.1::slotsC x0.slb x0.slx::x0.srch::turnsC x0.tb x0.tx::hpC x0.hb x0.hx::mpC mvI x0.mr x0.M::x0.och::seatsC x0.seats::bk b1 23 (suC su)::cs)
   (fun y=>y.1≤n∧Row 45 4 y.2.1 y.1 y.2.2.1 encPr y.2.2.2.2.2 y.2.2.2.1∧y.2.2.2.2.2.map Prod.fst=ps.take y.1∧∀x∈y.2.2.2.2.2,PrR [y.2.2.2.2.1] (prCells x.1 x.2.1 x.2.2.1 x.2.2.2) x.1) (fun y=>n-y.1)
   (0,x0.scs.a,x0.scs.c,x0.scs.ch,[],[]) rfl ?_ ⟨Nat.zero_le _,?_,rfl,by simp⟩ ?_
  ·have hz:x0.scs.n=0:=by
    have h0:=x0.r0
    rw [hx0]at h0
    obtain⟨L0,q1,q2,_⟩:=x0.scs.r.h
    rw [q1.len]
    have:x0.scs.ps=[]:=h0
    rw [this]at q2
    simpa using q2
   refine Imp.trans (eLay (x:=x0)) ?_
   dsimp only [eParts,eCells,List.cons_append,List.nil_append]
   rw [hz]
   exact drp
  ·show Row 45 4 x0.scs.a 0 x0.scs.c encPr [] x0.scs.ch
   rw [hon];exact⟨Sl.nil⟩
  rintro⟨i,a',c',rch,g,M⟩ ⟨i1,i2,i3,i4⟩
  dsimp only at *
  have hM:=i2.len
  refine go ?_
  simp only [decide_eq_true_eq,decide_eq_false_iff_not,Int.toNat_natCast]
  refine⟨fun c0=>⟨by omega,fun y hy b2=> ?_⟩,fun c0=> ?_⟩
  ·have hyp:ps[i]? =some y.1:=by rw [←k2,List.getElem?_map,hy];rfl
   have rp:PrR cs (prCells y.1 y.2.1 y.2.2.1 y.2.2.2) y.1:=k3 y (List.mem_of_getElem? hy)
   have hfy:=hf y.1 (List.mem_of_getElem? hyp)
   rw [w64_succ (by omega)]
   refine go ⟨hfy,fun sc hsc=> ?_⟩
   refine go ⟨by decide,fun b3=>⟨⟨by omega,by omega⟩,(sc.p,sc.a,sc.n,sc.c),rfl,fun a2 c2' ch2 r2=> ?_⟩⟩
   refine go ⟨(i+1,a2,c2',ch2,sc.ch++g,M++[(sc.p,sc.a,sc.n,sc.c)]),rfl,drp,⟨by omega,r2,?_,fun z hz=> ?_⟩,by simp only;omega⟩
   ·have hil:=lt_of_get hyp
    rw [List.map_append,i3,List.take_succ_eq_append_getElem hil]
    rw [List.getElem?_eq_getElem hil]at hyp
    rw [Option.some.inj hyp,←hsc];rfl
   ·rcases List.mem_append.1 hz with hz | hz
    ·exact(i4 z hz).sub (fun w hw=>by simp at hw ⊢;exact .inr hw)
    ·simp at hz;subst hz
     exact sc.r.sub (fun w hw=>by simp at hw ⊢;exact .inl hw)
  ·have e:i=n:=by omega
   subst e
   have etk:ps.take i=ps:=by rw [←hln,List.take_length]
   rw [etk]at i3
   have rwm:Rw 45 4 [rch++g] a' i c' encPr M:=by
    have:Rw 45 4 [rch] a' i c' encPr M:=inferInstance
    exact⟨this.h.sub (fun w hw=>by simp at hw ⊢;exact .inl hw)⟩
   have em:Eng.new su ps={x0.m with scripts:=ps}:=by rw [hx0];rfl
   let xF:En:={x0 with m:={x0.m with scripts:=ps},scs:=⟨ps,a',i,c',rch++g,⟨M,rwm.h,i3,fun z hz=>(i4 z hz).sub (fun w hw=>by simp at hw ⊢;exact .inr hw)⟩⟩,r0:=rfl,ok:=by rw [←em];exact new_eng_ok hg hf (by omega)}
   refine go ⟨_,?_,h3 hg hn64 bq xF em.symm⟩
   refine Imp.trans ?_ (Imp.trans (eShut (b:=bq) (x:=xF) (F:=bk b1 23 (suC su)::cs)) drp)
   dsimp only [eParts,eCells,xF,List.cons_append,List.nil_append]
   exact drp
 ·refine go ?_
  repeat' (first | apply And.intro | intro _)
  all_goals first | omega | (refine new_mk hg (by assumption) (by assumption) (by assumption) (by assumption) ?_;exact drp)))⟩
end
end Go.Proofs.YtbjlfobjngogkaaGreatDoor
namespace Go.Proofs.YtbjlfobjngogkaaGreatDoor
def Eng.those (e:Eng) (f:Dia→Nat):List Int:=e.slots.live.filter fun id=>match e.slots.slot id with
 | none=>false
 | some k=>match e.seat k with
  | none=>false
  | some x=>0<f x.d
def Eng.writes (e:Eng):List Int:=e.those fun d=>d.out.peek.size
def count1 (l:List (Int×Int)) (y:List (Int×Int)×Int) (id:Int):List (Int×Int)×Int:=
 (iset y.1 id (w64 ((iget l id).getD 0+1)),if w64 ((iget l id).getD 0+1)>y.2 then w64 ((iget l id).getD 0+1)else y.2)
def countV (l:List (Int×Int)) (most:Int) (ids:List Int):List (Int×Int)×Int:=ids.foldl (count1 l) ([],most)
def wLeft (out:List EvM) (l:List Int):List Int:=out.foldl (fun l x=>if x.kind=6 then l.filter (fun i=>i≠x.id)else l) l
def gapV (a b:Int):Int:=if 0>w64 ((if 0>b then 0 else b)-if 0>a then 0 else a)then 0 else w64 ((if 0>b then 0 else b)-if 0>a then 0 else a)
def tick1 (y:Int×Int) (x:EvM):Int×Int:=if x.kind=1 then(if gapV y.2 x.tick>y.1 then gapV y.2 x.tick else y.1,x.tick)else y
def ticksV (l:List EvM):Int:=(l.foldl tick1 (1,0)).1
structure FairM where
 e:Eng
 wl:List (Int×Int)
 wm:Int
 out:List EvM
def FairM.ids (f:FairM) (r:RoundM):List Int:=if r.abort then []else wLeft (f.e.round r).out f.e.writes
def FairM.round (f:FairM) (r:RoundM):FairM:=⟨f.e.round r,(countV f.wl f.wm (f.ids r)).1,(countV f.wl f.wm (f.ids r)).2,f.out++(f.e.round r).out⟩
def FairM.new (s:Setup) (ps:List PrM):FairM:=⟨Eng.new s ps,[],0,[]⟩
def FairM.run (s:Setup) (ps:List PrM) (rs:List RoundM):FairM:=rs.foldl FairM.round (FairM.new s ps)
end Go.Proofs.YtbjlfobjngogkaaGreatDoor
