/- Part of a proof over this seat: contracts of functions and plain laws, joined by program out of smaller texts. Conditions: those that each theorem states. -/
import Derived.Test.YtbjlfobjngogkaaGreatDoorQae
import Derived.Deep.Slices
import Derived.Carry
namespace Go.Proofs.YtbjlfobjngogkaaGreatDoor
open Go
set_option synthInstance.maxSize 100000
set_option synthInstance.maxHeartbeats 1000000
set_option maxRecDepth 100000
theorem rPart_at {s:List UInt8} {k x j:Nat} (h:rPart s k= .ok (x,j)):∃a i,rSign s k= .ok (a,i)∧((isAt s i 45=false∧j=i)∨(isAt s i 45=true∧∃b,rSign s (i+1)= .ok (b,j)∧¬b<a)):=by
 unfold rPart at h
 split at h
 ·cases h
 ·rename_i a i h1
  refine⟨a,i,h1,?_⟩
  split at h
  ·rename_i c
   split at h
   ·cases h
   ·rename_i b m h2
    split at h
    ·cases h
    ·rename_i c2
     cases h
     exact .inr ⟨c,b,h2,c2⟩
  ·rename_i c
   cases h
   exact .inl ⟨by simpa using c,rfl⟩
theorem rRest_at {s:List UInt8} {f x k y m:Nat} (h:rRest s f x k= .ok (y,m)):(isAt s k 93=true∧m=k)∨(isAt s k 93=false∧∃x' j f' x2,rPart s k= .ok (x',j)∧rRest s f' x2 j= .ok (y,m)):=by
 cases f with
 | zero=>cases h
 | succ f=>
  rw [rRest]at h
  split at h
  ·rename_i c;cases h;exact .inl ⟨c,rfl⟩
  ·rename_i c
   split at h
   ·cases h
   ·rename_i y' j h1
    exact .inr ⟨by simpa using c,y',j,f,_,h1,h⟩
theorem rRest_lt {s:List UInt8}:∀{f x k y m:Nat},rRest s f x k= .ok (y,m)→m<s.length
 | 0,_,_,_,_,h=>by cases h
 | f+1,x,k,y,m,h=>by
  rw [rRest]at h
  split at h
  ·rename_i c;cases h;exact isAt_lt c
  ·split at h
   ·cases h
   ·exact rRest_lt h
section
variable {cs:St} {K:Value→SP}
theorem c372k {s:ByteArray} {k:Int} {a j k':Nat} (hk:k=k') (hs:rSign (bl s) k'= .ok (a,j)) (h:∀n:Nat,j=k'+n→K (.tuple ⟨[.int .i64 a,.int .i64 n,.bool true]⟩) cs):fn 372 [.string (s.extract k.toNat s.size)] K cs:=by
 subst hk
 rw [Int.toNat_natCast]
 obtain⟨h1,h2,h3,h4⟩:=rSign_at hs
 have e:bl (s.extract k' s.size)=(bl s).drop k':=by rw [bl_extract,←bl_length,List.take_length]
 have el:(s.extract k' s.size).size=s.size-k':=by rw [←bl_length,e,List.length_drop,bl_length]
 rw [bl_length]at h1
 rcases h4 with ⟨g1,g2,g3,g4⟩ | ⟨g1,g2,g3⟩
 ·rw [bl_length]at g2
  refine c372t (a:=a) (n:=2) (by omega) (by rw [e,cAt_drop];exact h2) (by rw [e,cAt_drop];exact h3) (.inl ⟨by rw [e,cAt_drop];exact g1,by omega,by rw [e,cAt_drop];exact g3,rfl⟩) (h 2 g4)
 ·refine c372t (a:=a) (n:=1) (by omega) (by rw [e,cAt_drop];exact h2) (by rw [e,cAt_drop];exact h3) (.inr ⟨by rw [e,cAt_drop];exact g1,by rw [e,cAt_drop];exact g2,rfl⟩) (h 1 g3)
theorem sat_at {s:ByteArray} {k x:Nat} (hk:k<s.size):sat s (k:Int)=(x:Int)↔isAt (bl s) k x=true:=by
 rw [sat_cAt]
 unfold isAt
 rw [bl_length]
 simp [hk]
theorem c306t {s:ByteArray} {x i:Nat} (hs:rWhole (bl s)= .ok (x,i)) (hz:s.size≤1000000000000) (h:∀v0 v1 v2 v3,K (.tuple ⟨[.agg ⟨w4 v0 v1 v2 v3⟩,.int .i64 i,.int .i64 0]⟩) cs):fn 306 [.string s] K cs:=up0 (f306 (by
 unfold rWhole at hs
 split at hs
 case isFalse=>split at hs <;>cases hs
 rename_i c91
 have hlen:=isAt_lt c91
 rw [bl_length]at hlen
 have s91:sat s 0=91:=(sat_at (k:=0) (x:=91) hlen).2 c91
 unfold s306
 have hz2:∃p:Nat,p=(if isAt (bl s) 1 94 then 2 else 1):=⟨_,rfl⟩
 obtain⟨p,hp⟩:=hz2
 rw [←hp]at hs
 obtain⟨x0,j0,y,m,hP,hR,hi⟩:∃x j y m,rPart (bl s) p= .ok (x,j)∧rRest (bl s) ((bl s).length+1) x j= .ok (y,m)∧i=m+1:=by
  split at hs
  ·cases hs
  ·rename_i x j h1
   split at hs
   ·cases hs
   ·rename_i y m h2
    cases hs
    exact⟨x,j,y,m,h1,h2,rfl⟩
 subst hi
 have hm:m<s.size:=by rw [←bl_length];exact rRest_lt hR
 refine go fun b1 a c ch l r=> ?_
 refine⟨fun _ c1=>Imp c1 (ch::bk b1 412 (w4 0 0 0 0)::cs),fun _ c1 hc=>⟨_,hc,?_⟩,?_⟩
 ·refine⟨fun l1 c1=>l1=[.int .i64 p,.bool (isAt (bl s) 1 94)]∧Imp c1 (ch::bk b1 412 (w4 0 0 0 0)::cs),fun l1 c1 hc=>⟨_,hc.2,?_⟩,?_⟩
  ·obtain⟨rfl,_⟩:=hc
   refine go ?_
   refine⟨fun l1 c1=>l1=[.int .i64 m]∧∃ch l,Row 4 1 a 256 c encBo l ch∧Imp c1 (ch::bk b1 412 (w4 0 0 0 0)::cs),fun l1 c1 hc=> ?_,?_⟩
   ·obtain⟨rfl,ch,l,r,hi⟩:=hc
    refine⟨_,hi,?_⟩
    have e1:w64 ((m:Int)+1)=((m+1:Nat):Int):=w64_succ (by omega)
    refine go fun v0 v1 v2 v3 b2=> ?_
    rw [e1]
    refine⟨fun _ u0 u1 u2 u3=>fin (h _ _ _ _),fun _=>fin (h _ _ _ _)⟩
   ·refine lp (fun z:Nat×Bool×Chunk×List Bool=>[.int .i64 z.1,.bool z.2.1]) (fun z=>z.2.2.1::bk b1 412 (w4 0 0 0 0)::cs)
     (fun z=>Row 4 1 a 256 c encBo z.2.2.2 z.2.2.1∧z.1≤s.size∧(z.2.1=true→∃x j f x2,rPart (bl s) z.1= .ok (x,j)∧rRest (bl s) f x2 j= .ok (y,m))∧(z.2.1=false→∃x f,rRest (bl s) f x z.1= .ok (y,m))) (fun z=>s.size+1-z.1)
     (p,true,ch,l) rfl (Imp.refl _) ⟨r,?_,fun _=>⟨x0,j0,_,x0,hP,hR⟩,(fun e=>by cases e)⟩ ?_
    ·have:=rPart_ok hP;rw [bl_length]at this;simp only;omega
    rintro⟨k,first,ch,l⟩ ⟨i1,i2,i3,i4⟩
    dsimp only at *
    refine go ?_
    refine⟨fun _ c1=>(∃x j f x2,rPart (bl s) k= .ok (x,j)∧rRest (bl s) f x2 j= .ok (y,m))∧Imp c1 (ch::bk b1 412 (w4 0 0 0 0)::cs),fun _ c1 hc=> ?_,?_⟩
    ·obtain⟨⟨x,j,f,x2,q1,q2⟩,hi⟩:=hc
     refine⟨_,hi,?_⟩
     have hb:=rPart_ok q1
     rw [bl_length]at hb
     obtain⟨a0,i0,g1,g2⟩:=rPart_at q1
     obtain⟨o1,o2,o3⟩:=rSign_ok g1
     rw [bl_length]at o2
     refine go ⟨⟨by omega,by omega⟩,?_⟩
     refine c372k rfl g1 fun n1 hn1=> ?_
     have e1:w64 ((k:Int)+n1)=(i0:Int):=by rw [w64_id (by omega)];omega
     refine go ⟨fun c0=>absurd c0 (by decide),fun _=> ?_⟩
     rw [e1]
     refine⟨fun l1 c1=>(∃b0:Nat,b0<256∧l1=[.int .i64 j,.int .i64 b0])∧Imp c1 (ch::bk b1 412 (w4 0 0 0 0)::cs),fun l1 c1 hc=> ?_,?_⟩
     ·obtain⟨⟨b0,hb0,rfl⟩,hi⟩:=hc
      refine⟨_,hi,?_⟩
      refine go ?_
      refine lp (fun z:Nat×Chunk×List Bool=>[.int .i64 z.1]) (fun z=>z.2.1::bk b1 412 (w4 0 0 0 0)::cs) (fun z=>Row 4 1 a 256 c encBo z.2.2 z.2.1) (fun z=>b0+1-z.1) (a0,ch,l) rfl (Imp.refl _) i1 ?_
      rintro⟨q,ch,l⟩ t1
      dsimp only at *
      refine go ?_
      simp only [decide_eq_true_eq,decide_eq_false_iff_not,Int.toNat_natCast]
      refine⟨fun c2=>⟨⟨by omega,by omega⟩,true,rfl,fun ch' r'=>⟨(q+1,ch',_),by rw [w64_succ (by omega)],Imp.refl _,r',by simp only;omega⟩⟩,fun c2=>⟨(j,false,ch,l),rfl,Imp.refl _,⟨t1,by simp only;omega,(fun e=>by cases e),fun _=>⟨_,_,q2⟩⟩,by simp only;omega⟩⟩
     ·have end1:∀(b0:Nat) (c1:St),b0<256→Imp c1 (ch::bk b1 412 (w4 0 0 0 0)::cs)→(∃b1:Nat,b1<256∧[Value.int .i64 (j:Int),.int .i64 (b0:Int)]=[.int .i64 j,.int .i64 b1])∧Imp c1 (ch::bk b1 412 (w4 0 0 0 0)::cs):=fun b0 c1 hb hi=>⟨⟨b0,hb,rfl⟩,hi⟩
      refine go ?_
      simp only [decide_eq_true_eq,decide_eq_false_iff_not,beq_iff_eq,beq_eq_false_iff_ne]
      rcases g2 with ⟨g2,g3⟩ | ⟨g2,b0,g3,g4⟩
      ·rw [g3]at end1 ⊢
       refine⟨fun c2=>⟨⟨by omega,by omega⟩,fun c3=> ?_,fun _=>end1 a0 _ o3 (Imp.refl _)⟩,fun _=>end1 a0 _ o3 (Imp.refl _)⟩
       have:=(sat_at (k:=i0) (x:=45) (by omega)).1 c3
       rw [show((45:Nat):Int)=45 from rfl,g2]at this;cases this
      ·have hk:=isAt_lt g2
       rw [bl_length]at hk
       have hs4:=(sat_at (k:=i0) (x:=45) hk).2 g2
       obtain⟨u1,u2,u3⟩:=rSign_ok g3
       rw [bl_length]at u2
       refine⟨fun c2=>⟨⟨by omega,by omega⟩,fun _=> ?_,fun c3=>absurd hs4 c3⟩,fun c2=>absurd c2 (by omega)⟩
       rw [w64_succ (by omega)]
       refine⟨⟨by omega,by omega⟩,c372k rfl g3 fun n2 hn2=> ?_⟩
       have e3:w64 (((i0+1:Nat):Int)+n2)=(j:Int):=by rw [w64_id (by omega)];omega
       refine go ⟨fun c0=>absurd c0 (by decide),fun _=>⟨fun c4=>absurd (of_decide_eq_true c4) (by omega),fun _=> ?_⟩⟩
       rw [e3]
       exact end1 b0 _ u3 (Imp.refl _)
    ·refine go ?_
     refine⟨fun e=>⟨i3 e,Imp.refl _⟩,fun e=> ?_⟩
     obtain⟨x,f,hr⟩:=i4 e
     rcases rRest_at hr with ⟨g1,g2⟩ | ⟨g1,x',j,f',x2,g2,g3⟩
     ·have hk:=isAt_lt g1
      rw [bl_length]at hk
      have hs9:=(sat_at (k:=k) (x:=93) hk).2 g1
      simp only [beq_iff_eq,beq_eq_false_iff_ne,bne_iff_ne,ne_eq,bne_eq_false_iff_eq]
      exact⟨fun c0=>absurd c0 (by omega),fun _=>⟨⟨by omega,by omega⟩,fun c0=>absurd hs9 c0,fun _=>⟨by rw [g2],ch,l,i1,Imp.refl _⟩⟩⟩
     ·have hb:=rPart_ok g2
      rw [bl_length]at hb
      have hs9:¬sat s k=93:=fun hh=>by
       have:=(sat_at (k:=k) (x:=93) (by omega)).1 hh
       rw [show((93:Nat):Int)=93 from rfl,g1]at this;cases this
      simp only [beq_iff_eq,beq_eq_false_iff_ne,bne_iff_ne,ne_eq,bne_eq_false_iff_eq]
      exact⟨fun c0=>absurd c0 (by omega),fun _=>⟨⟨by omega,by omega⟩,fun _=>⟨⟨x',j,f',x2,g2,g3⟩,Imp.refl _⟩,fun c0=>absurd c0 hs9⟩⟩
  ·refine go ?_
   simp only [decide_eq_true_eq,decide_eq_false_iff_not,beq_iff_eq,beq_eq_false_iff_ne]
   refine⟨fun c1=>⟨⟨by omega,by omega⟩,fun c2=>⟨?_,Imp.refl _⟩,fun c2=>⟨?_,Imp.refl _⟩⟩,fun c1=>⟨?_,Imp.refl _⟩⟩
   ·have g:=(sat_at (k:=1) (x:=94) (by omega)).1 c2
    have g:isAt (bl s) 1 94=true:=g
    rw [if_pos g]at hp
    rw [hp,g];rfl
   ·have g:isAt (bl s) 1 94=false:=by
     cases hh:isAt (bl s) 1 94 with
     | false=>rfl
     | true=>exact absurd ((sat_at (k:=1) (x:=94) (by omega)).2 hh) c2
    rw [g]at hp ⊢
    rw [hp];rfl
   ·have g:isAt (bl s) 1 94=false:=by
     cases hh:isAt (bl s) 1 94 with
     | false=>rfl
     | true=>have:=isAt_lt hh;rw [bl_length]at this;omega
    rw [g]at hp ⊢
    rw [hp];rfl
 ·refine go ?_
  rw [s91]
  simp only [empty_iff,decide_eq_true_eq,decide_eq_false_iff_not]
  exact⟨fun c0=>absurd c0 (by omega),fun _=>⟨⟨by omega,by omega⟩,fun c0=>absurd c0 (by decide),fun _=>Imp.refl _⟩⟩))
abbrev ItW:=Bool×Int×Int×Int×Int
@[reducible] def encW:Enc ItW 5:=⟨fun x=>[.bool x.1,.int .u64 x.2.1,.int .u64 x.2.2.1,.int .u64 x.2.2.2.1,.int .u64 x.2.2.2.2],by omega,fun _=>rfl⟩
instance fdW0:FdB encW 0 (fun x=>x.1):=⟨fun _=>rfl⟩
theorem gGo_at {s:List UInt8} {f k:Nat} {out l:List Item} (h:gGo s f out k= .ok l) (hk:k<s.length) (hf:s.length<f+k):out.length≠60∧∃x n f',gItem (s.drop k)= .ok (x,n)∧gGo s f' (out++[x]) (k+n)= .ok l∧f=f'+1:=by
 cases f with
 | zero=>omega
 | succ f=>
  rw [gGo,if_pos hk]at h
  split at h
  ·cases h
  ·rename_i c
   split at h
   ·cases h
   ·rename_i x n h1
    exact⟨c,x,n,f,h1,h,rfl⟩
theorem gGo_end {s:List UInt8} {f k:Nat} {out l:List Item} (h:gGo s f out k= .ok l) (hk:¬k<s.length):l=out:=by
 cases f with
 | zero=>cases h;rfl
 | succ f=>rw [gGo,if_neg hk]at h;cases h;rfl
theorem rWhole_le {s:List UInt8} {x i:Nat} (h:rWhole s= .ok (x,i)):i≤s.length∧0<i:=by
 unfold rWhole at h
 split at h
 case isFalse=>split at h <;>cases h
 split at h
 ·cases h
 ·split at h
  ·cases h
  ·rename_i y m h2
   cases h
   have:=rRest_lt h2
   exact⟨this,by omega⟩
theorem c208t {s:ByteArray} {l:List Item} (hs:gParse (bl s)= .ok l) (hz:s.size≤1000000000000) (h:∀a c ch M,Row 416 5 a l.length c encW M ch→M.map Prod.fst=l.map Prod.fst→K (.tuple ⟨[.slice a l.length c,.int .i64 0,.int .i64 0]⟩) (ch::cs)):fn 208 [.string s] K cs:=up0 (f208 (by
 unfold s208
 refine go ⟨by decide,fun b0=> ?_⟩
 unfold gParse at hs
 refine lp (fun y:Nat×Option Addr×Nat×Chunk×List ItW×List Item×Nat=>[.slice y.2.1 y.2.2.2.2.1.length y.2.2.1,.int .i64 y.1]) (fun y=>y.2.2.2.1::cs)
  (fun y=>y.1≤s.size∧Row 416 5 y.2.1 y.2.2.2.2.1.length y.2.2.1 encW y.2.2.2.2.1 y.2.2.2.1∧y.2.2.2.2.1.map Prod.fst=y.2.2.2.2.2.1.map Prod.fst∧y.2.2.2.2.1.length≤y.1∧gGo (bl s) y.2.2.2.2.2.2 y.2.2.2.2.2.1 y.1= .ok l∧(bl s).length<y.2.2.2.2.2.2+y.1) (fun y=>s.size-y.1)
  (0,some (ad b0 0),0,bk b0 416 [],[],[],(bl s).length+1) rfl drp ⟨Nat.zero_le _,⟨Sl.mk (T:=416) (sz:=5) b0 0 0 [] [] [] rfl rfl (Nat.le_refl _) (by omega)⟩,rfl,Nat.le_refl _,hs,by simp only;omega⟩ ?_
 rintro⟨k,a,c,ch,M,out,f⟩ ⟨i1,i2,i3,i4,i5,i6⟩
 dsimp only at *
 have hMo:M.length=out.length:=by have:=congrArg List.length i3;simpa using this
 refine go ?_
 simp only [decide_eq_true_eq,decide_eq_false_iff_not,beq_iff_eq,beq_eq_false_iff_ne]
 refine⟨fun c0=> ?_,fun c0=> ?_⟩
 ·obtain⟨g1,x,n,f',g2,g3,g4⟩:=gGo_at i5 (by rw [bl_length];omega) (by omega)
  have ek:sat s k=(cAt (bl s) k:Nat):=sat_cAt s k
  have ec:cAt ((bl s).drop k) 0=cAt (bl s) k:=by rw [cAt_drop,Nat.add_zero]
  have hb:=cAt_lt (bl s) k
  rw [ek]
  have ec1:cAt ((bl s).drop k) 1=cAt (bl s) (k+1):=cAt_drop _ _ _
  have nx:∀(w:ItW) (a':Option Addr) (c':Nat) (ch':Chunk) (c1:St) (q:Int),w.1=x.1→Row 416 5 a' (M.length+1) c' encW (M++[w]) ch'→0<n→k+n≤s.size→q=((k+n:Nat):Int)→Imp c1 (ch'::cs)→
    ∃y:Nat×Option Addr×Nat×Chunk×List ItW×List Item×Nat,[Value.slice a' (M.length+1) c',.int .i64 q]=[.slice y.2.1 y.2.2.2.2.1.length y.2.2.1,.int .i64 y.1]∧Imp c1 (y.2.2.2.1::cs)∧
     (y.1≤s.size∧Row 416 5 y.2.1 y.2.2.2.2.1.length y.2.2.1 encW y.2.2.2.2.1 y.2.2.2.1∧y.2.2.2.2.1.map Prod.fst=y.2.2.2.2.2.1.map Prod.fst∧y.2.2.2.2.1.length≤y.1∧gGo (bl s) y.2.2.2.2.2.2 y.2.2.2.2.2.1 y.1= .ok l∧(bl s).length<y.2.2.2.2.2.2+y.1)∧s.size-y.1<s.size-k:=by
   intro w a' c' ch' c1 q hw r hn hkn hq hi
   subst hq
   refine⟨(k+n,a',c',ch',M++[w],out++[x],f'),by simp only [List.length_append,List.length_singleton],hi,⟨hkn,by simp only [List.length_append,List.length_singleton];exact r,by simp only [List.map_append,i3,List.map_cons,List.map_nil,hw],by simp only [List.length_append,List.length_singleton];omega,g3,by simp only;omega⟩,by simp only;omega⟩
  unfold gItem at g2
  rw [ec]at g2
  refine⟨fun c1=>absurd c1 (by omega),fun _=>⟨⟨by omega,by omega⟩,fun c1=> ?_,fun c1=>⟨fun c2=>⟨⟨by omega,by omega⟩,?_⟩,fun c2=>⟨fun c3=> ?_,fun c3=>⟨fun c4=> ?_,fun c4=> ?_⟩⟩⟩⟩⟩
  ·rw [if_neg (by omega),if_neg (by omega),if_neg (by omega),if_pos (by omega)]at g2;cases g2
  ·rw [if_neg (by omega),if_neg (by omega),if_pos (by omega)]at g2
   split at g2
   ·cases g2
   ·rename_i sx i hw
    obtain⟨rfl,rfl⟩:x=(false,sx)∧n=i:=by cases g2;exact⟨rfl,rfl⟩
    have e:bl (s.extract k s.size)=(bl s).drop k:=by rw [bl_extract,←bl_length,List.take_length]
    have el:(s.extract k s.size).size=s.size-k:=by rw [←bl_length,e,List.length_drop,bl_length]
    have hle:=rWhole_le hw
    rw [List.length_drop,bl_length]at hle
    rw [Int.toNat_natCast]
    refine c306t (x:=sx) (i:=n) (by rw [e];exact hw) (by omega) fun v0 v1 v2 v3=> ?_
    refine go fun b1=>⟨fun c=>absurd c (by decide),fun _=>⟨⟨by omega,by omega,by omega⟩,(false,v0,v1,v2,v3),rfl,fun a' c' ch' r'=>nx _ a' c' ch' _ _ rfl r' (by omega) (by omega) (by rw [w64_id (by omega)];omega) drp⟩⟩
  ·rw [if_pos (by omega)]at g2
   cases g2
   exact⟨⟨by omega,by omega,by omega⟩,(true,0,0,0,0),rfl,fun a' c' ch' r'=>nx _ a' c' ch' _ _ rfl r' (by omega) (by omega) (w64_succ (by omega)) drp⟩
  ·rw [if_neg (by omega),if_pos (by omega)]at g2
   cases g2
   exact⟨⟨by omega,by omega⟩,fun v0 v1 v2 v3=>⟨⟨by omega,by omega,by omega⟩,(false,v0,v1,v2,v3),rfl,fun a' c' ch' r'=>nx _ a' c' ch' _ _ rfl r' (by omega) (by omega) (w64_succ (by omega)) drp⟩⟩
  ·rw [if_neg (by omega),if_neg (by omega),if_neg (by omega),if_neg (by omega)]at g2
   have fit:∃d:Nat,d<256∧x.1=false∧0<n∧k+n≤s.size∧((cAt (bl s) k=37∧k+1<s.size∧d=cAt (bl s) (k+1)∧n=2)∨(cAt (bl s) k≠37∧d=cAt (bl s) k∧n=1)):=by
    have hb1:=cAt_lt (bl s) (k+1)
    split at g2
    ·rename_i c5
     split at g2
     ·cases g2
     ·rename_i c6
      rw [List.length_drop,bl_length]at c6
      cases g2
      exact⟨_,hb1,rfl,by omega,by omega,.inl ⟨c5,by omega,rfl,rfl⟩⟩
    ·rename_i c5
     cases g2
     exact⟨_,hb,rfl,by omega,by omega,.inr ⟨c5,rfl,rfl⟩⟩
   obtain⟨d,hd,hx,hn,hkn,hor⟩:=fit
   refine⟨fun l1 c1=>l1=[.int .i64 ((k+n:Nat):Int),.int .u8 d]∧Imp c1 (ch::cs),fun l1 c1 hc=>⟨_,hc.2,?_⟩,?_⟩
   ·obtain⟨rfl,_⟩:=hc
    have ed:w64 (d:Int)=d:=w64_id (by omega)
    refine go ?_
    rw [ed]
    refine go ⟨⟨by omega,by omega⟩,fun v0 v1 v2 v3=>⟨⟨by omega,by omega,by omega⟩,(false,v0,v1,v2,v3),rfl,fun a' c' ch' r'=>nx _ a' c' ch' _ _ hx.symm r' hn hkn rfl drp⟩⟩
   ·have e1:w64 ((k:Int)+1)=((k+1:Nat):Int):=w64_succ (by omega)
    have ek1:sat s ((k+1:Nat):Int)=(cAt (bl s) (k+1):Nat):=sat_cAt s (k+1)
    refine go ?_
    rw [e1,ek1]
    simp only [beq_iff_eq,beq_eq_false_iff_ne]
    rcases hor with ⟨q1,q2,q3,q4⟩ | ⟨q1,q3,q4⟩
    ·refine⟨fun _=>⟨fun c5=>absurd c5 (by omega),fun _=>⟨⟨by omega,by omega⟩,?_,Imp.refl _⟩⟩,fun c5=>absurd c5 (by omega)⟩
     rw [q3,q4,w64_succ (by omega)]
    ·refine⟨fun c5=>absurd c5 (by omega),fun _=>⟨?_,Imp.refl _⟩⟩
     rw [q3,q4]
 ·have e:k=s.size:=by omega
  have el:=gGo_end i5 (by rw [bl_length];omega)
  rw [el]at h
  rw [hMo]at i2 ⊢
  exact fin (h a c ch M i2 i3)))
theorem c209t {a:Option Addr} {n c:Nat} {M:List ItW} (r:Rw 416 5 cs a n c encW M) (hn:n≤1000000) (h:∀k:Nat,(M.any fun x=> !x.1)=true→0<k→K (.int .i64 k) cs) (h2:(M.any fun x=> !x.1)=true):fn 209 [.slice a n c] K cs:=up0 (f209 (by
 unfold s209
 have hl:=r.h.len
 refine lp (fun y:Nat×Nat=>[.int .i64 y.1,.int .i64 y.2]) (fun _=>cs) (fun y=>y.2≤n∧y.1≤y.2∧(((M.take y.2).any fun x=> !x.1)=true→0<y.1)) (fun y=>n-y.2) (0,0) rfl (Imp.refl _) ⟨Nat.zero_le _,Nat.le_refl _,by simp⟩ ?_
 rintro⟨m,i⟩ ⟨i1,i2,i3⟩
 dsimp only at *
 refine go ?_
 simp only [decide_eq_true_eq,decide_eq_false_iff_not,Int.toNat_natCast,id]
 refine⟨fun c0=>⟨by omega,fun x hx=> ?_⟩,fun c0=> ?_⟩
 ·rw [w64_succ (by omega),w64_succ (by omega)]
  have hil:=lt_of_get hx
  have et:M.take (i+1)=M.take i++[x]:=by
   rw [List.take_succ_eq_append_getElem hil]
   rw [List.getElem?_eq_getElem hil]at hx
   rw [Option.some.inj hx]
  refine⟨fun _=>⟨(m+1,i+1),rfl,Imp.refl _,⟨by simp only;omega,by simp only;omega,fun _=>by simp only;omega⟩,by simp only;omega⟩,fun c1=>⟨(m,i+1),rfl,Imp.refl _,⟨by simp only;omega,by simp only;omega,fun hh=>i3 ?_⟩,by simp only;omega⟩⟩
  simp only at hh
  rw [et,List.any_append,Bool.or_eq_true]at hh
  rcases hh with hh | hh
  ·exact hh
  ·simp only [List.any_cons,List.any_nil,Bool.or_false]at hh
   rw [hh]at c1;cases c1
 ·have e:i=n:=by omega
  subst e
  rw [hl,List.take_length]at i3
  exact⟨cs,Imp.refl _,h m h2 (i3 h2)⟩))
theorem c130t {s:ByteArray} {l:List Item} (hs:pCompile (bl s)= .ok l) (hz:s.size≤1000000) (h:∀a n c ch,K (.tuple ⟨[.slice a n c,.int .i64 0,.int .i64 0]⟩) (ch::cs)):fn 130 [.string s] K cs:=f130 (by
 unfold pCompile at hs
 split at hs
 ·cases hs
 ·rename_i l1 h1
  split at hs
  ·cases hs
  ·rename_i hg
   split at hs
   ·cases hs
   ·rename_i he
    cases hs
    unfold s130
    refine c208t h1 (by omega) fun a c ch M r hM=> ?_
    have hlM:M.length=l.length:=by have:=congrArg List.length hM;simpa using this
    have hle:l.length≤60:=by
     have hg:goodI l=true:=by simpa using hg
     unfold goodI at hg
     rw [Bool.and_eq_true]at hg
     exact of_decide_eq_true hg.1
    have hany:(M.any fun x=> !x.1)=true:=by
     have he:emptyI l=false:=by simpa using he
     unfold emptyI at he
     have e1:(l.any fun x=> !x.1)=true:=by simpa using he
     have e2:∀(M:List ItW) (l:List Item),M.map Prod.fst=l.map Prod.fst→(M.any fun x=> !x.1)=(l.any fun x=> !x.1):=by
      intro M
      induction M with
      | nil=>intro l h;cases l with
       | nil=>rfl
       | cons _ _=>cases h
      | cons x M ih=>intro l h;cases l with
       | nil=>cases h
       | cons y l=>
        simp only [List.map_cons,List.cons.injEq]at h
        rw [List.any_cons,List.any_cons,h.1,ih l h.2]
     rw [e2 M l hM];exact e1
    refine go ⟨fun _=> ?_,fun c0=>absurd c0 (by decide)⟩
    refine c209t (M:=M) inferInstance (by omega) (fun k _ hk=> ?_) hany
    refine go ⟨fun c0=>absurd (beq_iff_eq.1 c0) (by omega),fun _=>h _ _ _ _⟩)
end
section
variable {cs:St} {K:Value→SP}
theorem c187t {s:ByteArray} (hs:nameOk (bl s)=true) (h:K (.bool true) cs):fn 187 [.string s] K cs:=up0 (f187 (by
 unfold nameOk at hs
 simp only [Bool.and_eq_true,decide_eq_true_eq]at hs
 obtain⟨⟨⟨g1,g2⟩,g3⟩,g4⟩:=hs
 have hl:=bl_length s
 have hc:∀k,k<s.size→(97≤cAt (bl s) k∧cAt (bl s) k≤122)∨(48≤cAt (bl s) k∧cAt (bl s) k≤57):=fun k hk=>by
  have hm:(bl s)[k]∈bl s:=List.getElem_mem (by rw [hl];exact hk)
  have:=List.all_eq_true.1 g4 _ hm
  simp only [Bool.not_eq_true',Bool.and_eq_false_iff,Bool.or_eq_false_iff,decide_eq_false_iff_not]at this
  have e:cAt (bl s) k=((bl s)[k]).toNat:=by unfold cAt;rw [List.getD_eq_getElem?_getD,List.getElem?_eq_getElem (by rw [hl];exact hk)];rfl
  rw [e];omega
 have h0:97≤cAt (bl s) 0:=g3
 unfold s187
 refine lp (fun i:Nat=>[.int .i64 i]) (fun _=>cs) (fun i=>i≤s.size) (fun i=>s.size-i) 0 rfl (Imp.refl _) (Nat.zero_le _) ?_
 intro i hi
 refine goj ?_
 simp only [decide_eq_true_eq,decide_eq_false_iff_not,Bool.not_eq_true',Bool.not_eq_false',beq_iff_eq,beq_eq_false_iff_ne]
 have es:sat s (i:Int)=(cAt (bl s) i:Nat):=sat_cAt s i
 rw [es]
 have nx:(i:Int)<s.size→∃x:Nat,[Value.int .i64 (w64 ((i:Int)+1))]=[.int .i64 (x:Int)]∧Imp cs cs∧x≤s.size∧s.size-x<s.size-i:=fun hh=>⟨i+1,by rw [w64_succ (by omega)],Imp.refl _,by omega,by omega⟩
 have hci:=hc i
 have h0i:i=0→97≤cAt (bl s) i:=fun e=>by rw [e];exact h0
 repeat' (first | apply And.intro | intro _)
 all_goals first
  | omega
  | (exact nx (by omega))
  | (exfalso;omega)
  | (exact absurd ‹false=true› (by decide))
  | (rw [decide_eq_true (by omega)];exact fin h)))
theorem bare_eq {o:OpM} (h:sameO o (bareO o)=true):(o.kind≠1→o.text.size=0)∧(o.kind≠2→o.kind≠4→o.n=0)∧(o.kind≠3→o.to=0)∧(o.kind≠2→o.arms.length=0∧o.onT=0∧o.onE=0):=by
 have hs:∀l:List ArmM,sameL l []=true→l.length=0:=fun l hl=>by cases l with
  | nil=>rfl
  | cons _ _=>cases hl
 have ht:∀x:ByteArray,(x == ByteArray.empty)=true→x.size=0:=fun x hx=>by
  rw [←bl_eq,show ByteArray.empty=bs []from rfl,empty_iff]at hx
  exact of_decide_eq_true hx
 unfold bareO at h
 split at h
 ·rename_i k
  simp only [sameO,OpM.zero,Bool.and_eq_true,beq_iff_eq]at h
  obtain⟨⟨⟨⟨⟨⟨h1,h2⟩,h3⟩,h4⟩,h5⟩,h6⟩,h7⟩:=h
  exact⟨fun k2=>absurd k k2,fun _ _=>h3,fun _=>h4,fun _=>⟨hs _ h7,h5,h6⟩⟩
 split at h
 ·rename_i k
  simp only [sameO,OpM.zero,Bool.and_eq_true,beq_iff_eq]at h
  obtain⟨⟨⟨⟨⟨⟨h1,h2⟩,h3⟩,h4⟩,h5⟩,h6⟩,h7⟩:=h
  exact⟨fun _=>ht _ h2,fun k2=>absurd k k2,fun _=>h4,fun k2=>absurd k k2⟩
 split at h
 ·rename_i k
  simp only [sameO,OpM.zero,Bool.and_eq_true,beq_iff_eq]at h
  obtain⟨⟨⟨⟨⟨⟨h1,h2⟩,h3⟩,h4⟩,h5⟩,h6⟩,h7⟩:=h
  exact⟨fun _=>ht _ h2,fun _ _=>h3,fun k2=>absurd k k2,fun _=>⟨hs _ h7,h5,h6⟩⟩
 split at h
 ·rename_i k
  simp only [sameO,OpM.zero,Bool.and_eq_true,beq_iff_eq]at h
  obtain⟨⟨⟨⟨⟨⟨h1,h2⟩,h3⟩,h4⟩,h5⟩,h6⟩,h7⟩:=h
  exact⟨fun _=>ht _ h2,fun _ k4=>absurd k k4,fun _=>h4,fun _=>⟨hs _ h7,h5,h6⟩⟩
 ·simp only [sameO,OpM.zero,Bool.and_eq_true,beq_iff_eq]at h
  obtain⟨⟨⟨⟨⟨⟨h1,h2⟩,h3⟩,h4⟩,h5⟩,h6⟩,h7⟩:=h
  exact⟨fun _=>ht _ h2,fun _ _=>h3,fun _=>h4,fun _=>⟨hs _ h7,h5,h6⟩⟩
theorem c285t {o:OpM} {a:Option Addr} {n c:Nat} (hn:n=o.arms.length) (hb:sameO o (bareO o)=true) (h:K (.bool true) cs):fn 285 [.agg ⟨opCells o a n c⟩] K cs:=up0 (f285 (by
 obtain⟨g1,g2,g3,g4⟩:=bare_eq hb
 unfold s285
 refine goj fun b1=> ?_
 simp only [empty_iff,decide_eq_true_eq,decide_eq_false_iff_not,Bool.not_eq_true',Bool.not_eq_false',beq_iff_eq,beq_eq_false_iff_ne,bne_iff_ne,ne_eq,bne_eq_false_iff_eq]
 repeat' (first | apply And.intro | intro _)
 all_goals first
  | exact fin h
  | (exfalso;omega)
  | (have e6:(o.onE == 0)=true:=(by rw [beq_iff_eq];omega);rw [e6];exact fin h)))
theorem c287t {p:PrM} {a:Option Addr} {n c:Nat} {t:Int} (hn:n=p.ops.length) (ht:comes p t=true) (h:K (.bool true) cs):fn 287 [.agg ⟨prCells p a n c⟩,.int .i64 t] K cs:=up0 (f287 (by
 have hc:=comes_iff.1 ht
 unfold s287
 refine go fun b1=>⟨fun _=> ?_,fun c0=>absurd c0 (by simp;omega)⟩
 rw [decide_eq_true (by omega)];exact fin h))
theorem pc_ok {s:List UInt8} (h:∀k e,pCompile s= .error (k,e)→e=0):∃l,pCompile s= .ok l:=by
 cases hp:pCompile s with
 | ok l=>exact⟨l,rfl⟩
 | error y=>exact absurd (h y.1 y.2 hp) (pCompile_err hp)
theorem c286t {p:PrM} {o:OpM} {a a2:Option Addr} {n c n2 c2:Nat} (hn:n=p.ops.length) (r:Rw 146 2 cs a2 n2 c2 encArm o.arms) (he:expE p o=0) (h:K (.int .i64 0) cs):fn 286 [.agg ⟨prCells p a n c⟩,.agg ⟨opCells o a2 n2 c2⟩] K cs:=up0 (f286 (by
 obtain⟨g1,g2,g3,g4,g5⟩:=expE_facts he
 have hl:=r.h.len
 have hnv:=nev
 unfold s286
 refine go fun b1 b2=> ?_
 refine⟨fun _ c1=>Imp c1 (bk b2 97 (opCells o a2 n2 c2)::bk b1 45 (prCells p a n c)::cs),fun _ c1 hc=>⟨_,hc,?_⟩,?_⟩
 ·refine go ⟨fun c0=>absurd (of_decide_eq_true c0) (by omega),fun _=> ?_⟩
  refine lp (fun i:Nat=>[.int .i64 i]) (fun _=>bk b2 97 (opCells o a2 n2 c2)::bk b1 45 (prCells p a n c)::cs) (fun i=>i≤n2) (fun i=>n2-i) 0 rfl (Imp.refl _) (Nat.zero_le _) ?_
  intro i hi
  refine go ?_
  simp only [decide_eq_true_eq,decide_eq_false_iff_not,Int.toNat_natCast,bne_iff_ne,ne_eq,bne_eq_false_iff_eq]
  have t287:∀{K':Value→SP} {c':St} (t:Int),t= -1∨comes p t=true→¬t= -1→K' (.bool true) c'→fn 287 [.agg ⟨prCells p a n c⟩,.int .i64 t] K' c':=fun t h1 h2 h3=>c287t hn (h1.resolve_left h2) h3
  refine⟨fun c0=>⟨by omega,fun m hm=>⟨fun c1=> ?_,fun c1=>⟨by omega,fun m' hm'=> ?_⟩⟩⟩,fun c0=>⟨fun c1=> ?_,fun c1=>⟨fun c2=> ?_,fun _=>fin h⟩⟩⟩
  ·have:=(armE_facts (g3 m (List.mem_of_getElem? hm))).1
   omega
  ·rw [hm]at hm'
   cases hm'
   have ha:=g3 m (List.mem_of_getElem? hm)
   obtain⟨q,hq⟩:=pc_ok (armE_facts ha).2.1
   refine c130t (l:=q) hq (by have:=(armE_facts ha).1;omega) fun a0 n0 c0 ch0=> ?_
   refine go ⟨fun c3=>absurd c3 (by decide),fun _=>⟨⟨by omega,by omega⟩,fun m2 hm2=> ?_⟩⟩
   rw [Int.toNat_natCast,hm]at hm2
   cases hm2
   refine c287t (a:=a) (c:=c) hn (arm_comes ha) ?_
   exact go ⟨fun c3=>absurd c3 (by decide),fun _=>⟨i+1,by rw [w64_succ (by omega)],drp,by omega,by omega⟩⟩
  ·refine t287 _ g4 c1 ?_
   refine go ⟨fun c3=>absurd c3 (by decide),fun _=> ?_⟩
   simp only [bne_iff_ne,ne_eq,bne_eq_false_iff_eq]
   refine⟨fun c3=> ?_,fun _=>fin h⟩
   refine t287 _ g5 c3 ?_
   exact go ⟨fun c3=>absurd c3 (by decide),fun _=>fin h⟩
  ·refine t287 _ g5 c2 ?_
   exact go ⟨fun c3=>absurd c3 (by decide),fun _=>fin h⟩
 ·refine go ?_
  simp only [decide_eq_true_eq,decide_eq_false_iff_not,bne_iff_ne,ne_eq,bne_eq_false_iff_eq]
  refine⟨fun c0=>⟨fun c1=>absurd c1 (by omega),fun c1=>⟨fun c2=>absurd c2 (by omega),fun _=>Imp.refl _⟩⟩,fun _=>Imp.refl _⟩))
theorem c188t {p:PrM} {o:OpM} {a a2:Option Addr} {n c n2 c2:Nat} (hn:n=p.ops.length) (r:Rw 146 2 cs a2 n2 c2 encArm o.arms) (he:opE p o=0) (h:K (.int .i64 0) cs):fn 188 [.agg ⟨prCells p a n c⟩,.agg ⟨opCells o a2 n2 c2⟩] K cs:=up0 (f188 (by
 obtain⟨g1,g2,g3,g4,g5⟩:=opE_facts he
 have hb:sameO o (bareO o)=true:=by
  unfold opE at he
  split at he
  ·cases he
  ·split at he
   ·cases he
   ·rename_i hh;simpa using hh
 have hl:=r.h.len
 unfold s188
 refine go fun b1 b2=> ?_
 refine⟨fun _ c1=>Imp c1 (bk b2 97 (opCells o a2 n2 c2)::bk b1 45 (prCells p a n c)::cs),fun _ c1 hc=>⟨_,hc,?_⟩,?_⟩
 ·refine go ?_
  refine c285t hl hb ?_
  refine goj ?_
  simp only [empty_iff,decide_eq_true_eq,decide_eq_false_iff_not,beq_iff_eq,beq_eq_false_iff_ne]
  have f1:o.kind≠1∨(0<o.text.size∧o.text.size≤256):=by by_cases k:o.kind=1;exact .inr (g2 k);exact .inl k
  have f4:o.kind≠4∨(0≤o.n∧o.n≤1000000000000):=by by_cases k:o.kind=4;exact .inr (g5 k);exact .inl k
  have t286:o.kind=2→fn 286 [.agg ⟨prCells p a n c⟩,.agg ⟨opCells o a2 n2 c2⟩] (fun v20=>unI .i64 v20 fun n21=>Up K (Value.int .i64 n21)) (bk b2 97 (opCells o a2 n2 c2)::bk b1 45 (prCells p a n c)::cs):=fun k=>c286t hn inferInstance (g3 k) (go (fin h))
  clear g2 g5
  repeat' (first | apply And.intro | intro _)
  all_goals first
   | exact fin h
   | (exact absurd ‹(!true)=true› (by decide))
   | (exfalso;omega)
   | (exact t286 (by assumption))
   | skip
  all_goals
   refine c287t (a:=a) (c:=c) hn (g4 (by assumption)) ?_
   refine go ⟨fun c=>absurd c (by decide),fun _=> ?_⟩
   simp only [decide_eq_true_eq,decide_eq_false_iff_not,beq_iff_eq,beq_eq_false_iff_ne]
   repeat' (first | apply And.intro | intro _)
   all_goals first
    | exact fin h
    | (exfalso;omega)
 ·refine go ?_
  simp only [decide_eq_true_eq,decide_eq_false_iff_not]
  exact⟨fun c0=>absurd c0 (by omega),fun _=>⟨fun c0=>absurd c0 (by omega),fun _=>Imp.refl _⟩⟩))
theorem c42t {p:PrM} {v:List Value} (r:PrR cs v p) (hg:goodP p=true) (hf:p.Fit) (h:K (.bool true) cs):fn 42 [.agg ⟨v⟩] K cs:=up0 (f42 (by
 obtain⟨a,n,c,L,hv,h2,h3,h4⟩:=r.h
 subst hv
 unfold s42
 refine go fun b1=>f113 ?_
 obtain⟨g1,g2,g3,g4⟩:=goodP_facts hg
 have gn:nameOk (bl p.name)=true:=by
  unfold goodP wrongE at hg
  simp only [beq_iff_eq]at hg
  split at hg
  ·cases hg
  ·rename_i hh
   show nameOk p.name.data.toList=true
   simpa using hh
 have hnv:=nev
 have hn:=h2.len
 have hn':n=p.ops.length:=by rw [←h3,List.length_map,hn]
 have rw1:Rw 97 7 cs a n c encOp L:=⟨h2⟩
 unfold s113
 refine go fun b2=>c187t gn ?_
 refine go ⟨fun c0=>absurd c0 (by decide),fun _=> ?_⟩
 refine⟨fun _ c1=>Imp c1 (bk b2 45 (prCells p a n c)::bk b1 45 (prCells p a n c)::cs),fun _ c1 hc=>⟨_,hc,?_⟩,?_⟩
 ·refine go ⟨fun c0=>absurd (of_decide_eq_true c0) (by omega),fun _=> ?_⟩
  refine lp (fun i:Nat=>[.int .i64 i]) (fun _=>bk b2 45 (prCells p a n c)::bk b1 45 (prCells p a n c)::cs) (fun i=>i≤n) (fun i=>n-i) 0 rfl (Imp.refl _) (Nat.zero_le _) ?_
  intro i hi
  refine go ?_
  simp only [decide_eq_true_eq,decide_eq_false_iff_not,Int.toNat_natCast]
  refine⟨fun c0=>⟨by omega,fun x hx=> ?_⟩,fun c0=> ?_⟩
  ·have hxm:=List.mem_of_getElem? hx
   have ho:x.1∈p.ops:=by rw [←h3];exact List.mem_map_of_mem hxm
   refine c188t (p:=p) (o:=x.1) (a:=a) (c:=c) hn' ⟨(h4 x hxm).cons.cons⟩ (g4 _ ho) ?_
   exact go ⟨fun c3=>absurd c3 (by decide),fun _=>⟨i+1,by rw [w64_succ (by omega)],drp,by omega,by omega⟩⟩
  ·exact fin h
 ·refine go ?_
  simp only [decide_eq_true_eq,decide_eq_false_iff_not,bne_iff_ne,ne_eq,bne_eq_false_iff_eq]
  repeat' (first | apply And.intro | intro _)
  all_goals first
   | exact Imp.refl _
   | assumption
   | (exfalso;omega)))
instance c35 {su:Setup}:Go1 (fn 35 [.agg ⟨suC su⟩] K cs) (K (.bool (good su)) cs):=⟨fun h=>up0 (f35 (by
 unfold s35
 refine go fun b1=>⟨by decide,fun b2=>⟨by decide,fun b3=> ?_⟩⟩
 have hgd:good su=true↔∀i,i<6→1≤[su.live,su.ring,su.win,su.out,su.quantum,su.visits].getD i 0∧[su.live,su.ring,su.win,su.out,su.quantum,su.visits].getD i 0≤[(1024:Int),4096,4096,4096,1000000,64].getD i 0:=by
  constructor
  ·intro hg i hi
   simp only [good,inn,Bool.and_eq_true,decide_eq_true_eq]at hg
   obtain rfl | rfl | rfl | rfl | rfl | rfl:i=0∨i=1∨i=2∨i=3∨i=4∨i=5:=by omega
   all_goals simp only [List.getD_cons_zero,List.getD_cons_succ];omega
  ·intro hh
   have h0:=hh 0 (by omega);have h1:=hh 1 (by omega);have h2:=hh 2 (by omega);have h3:=hh 3 (by omega);have h4:=hh 4 (by omega);have h5:=hh 5 (by omega)
   simp only [List.getD_cons_zero,List.getD_cons_succ]at h0 h1 h2 h3 h4 h5
   simp only [good,inn,Bool.and_eq_true,decide_eq_true_eq]
   omega
 refine lp (fun i:Nat=>[.int .i64 i]) (fun _=>bk b3 3 (List.map (Value.int .i64) [1024,4096,4096,4096,1000000,64])::bk b2 3 (List.map (Value.int .i64) [su.live,su.ring,su.win,su.out,su.quantum,su.visits])::bk b1 23 (suC su)::cs)
  (fun i=>i≤6∧∀j,j<i→1≤[su.live,su.ring,su.win,su.out,su.quantum,su.visits].getD j 0∧[su.live,su.ring,su.win,su.out,su.quantum,su.visits].getD j 0≤[(1024:Int),4096,4096,4096,1000000,64].getD j 0) (fun i=>6-i) 0 rfl (Imp.refl _) ⟨Nat.zero_le _,fun j hj=>absurd hj (Nat.not_lt_zero _)⟩ ?_
 rintro i ⟨i1,i2⟩
 refine go ?_
 simp only [decide_eq_true_eq,decide_eq_false_iff_not,Int.toNat_natCast]
 generalize hA:[su.live,su.ring,su.win,su.out,su.quantum,su.visits]=A at *
 have hl:A.length=6:=by rw [←hA];rfl
 generalize hB:[(1024:Int),4096,4096,4096,1000000,64]=B at *
 have hl2:B.length=6:=by rw [←hB];rfl
 have no:i<6→¬(1≤A.getD i 0∧A.getD i 0≤B.getD i 0)→good su=false:=fun h1 h2=>by
  cases hh:good su with
  | false=>rfl
  | true=>exact absurd (hgd.1 hh i h1) h2
 refine⟨fun c0=>⟨⟨by omega,by omega⟩,by omega,fun c1=> ?_,fun c1=>⟨⟨by omega,by omega⟩,by omega,⟨by omega,by omega⟩,by omega,fun c2=> ?_,fun c2=>⟨i+1,by rw [w64_succ (by omega)],Imp.refl _,⟨by omega,fun j hj=> ?_⟩,by omega⟩⟩⟩,fun c0=> ?_⟩
 ·rw [no (by omega) (by omega)]at h;exact fin h
 ·rw [no (by omega) (by omega)]at h;exact fin h
 ·rcases Nat.lt_or_ge j i with hji | hji
  ·exact i2 j hji
  ·have:j=i:=by omega
   subst this;exact⟨by omega,by omega⟩
 ·have:good su=true:=hgd.2 fun j hj=>i2 j (by omega)
  rw [this]at h;exact fin h))⟩
end
instance fdOp1:FdS encOp 1 (fun x=>x.1.text):=⟨fun _=>rfl⟩
def cdiv (n d:Nat):Nat:=(n+d-1) / d
theorem cdiv_succ {k d:Int} (hk:0<k) (hd:0<d):cdiv k.toNat d.toNat=1+cdiv (k-d).toNat d.toNat:=by
 obtain⟨k,rfl⟩:∃n:Nat,k=n:=⟨k.toNat,by omega⟩
 obtain⟨d,rfl⟩:∃n:Nat,d=n:=⟨d.toNat,by omega⟩
 have hk:0<k:=by omega
 have hd:0<d:=by omega
 simp only [Int.toNat_natCast]
 unfold cdiv
 by_cases h:d≤k
 ·have e:((k:Int)-d).toNat=k-d:=by omega
  rw [e,show k+d-1=(k-d+d-1)+d by omega,Nat.add_div_right _ hd]
  omega
 ·have e:((k:Int)-d).toNat=0:=by omega
  rw [e,show k+d-1=(k-1)+d by omega,Nat.add_div_right _ hd,Nat.div_eq_of_lt (by omega),Nat.div_eq_of_lt (a:=0+d-1) (by omega)]
theorem cdiv_le {n d:Nat} (hd:0<d):cdiv n d≤n:=by
 unfold cdiv
 rcases Nat.eq_zero_or_pos n with rfl | h
 ·rw [Nat.div_eq_of_lt (by omega)];exact Nat.le_refl _
 ·rw [Nat.div_le_iff_le_mul hd]
  have h1:1*d≤n*d:=Nat.mul_le_mul_right d h
  have h2:n*1≤n*d:=Nat.mul_le_mul_left n hd
  have:n+d≤n*d+1:=by
   obtain⟨a,rfl⟩:∃a,n=a+1:=⟨n-1,by omega⟩
   obtain⟨b,rfl⟩:∃b,d=b+1:=⟨d-1,by omega⟩
   rw [Nat.add_mul,Nat.mul_add];have:=Nat.zero_le (a*b);omega
  omega
theorem text_le {p:PrM} {o:OpM} (he:opE p o=0):o.text.size≤256:=by
 obtain⟨g1,g2,_⟩:=opE_facts he
 by_cases k:o.kind=1
 ·exact(g2 k).2
 ·have hb:sameO o (bareO o)=true:=by
   unfold opE at he
   split at he
   ·cases he
   ·split at he
    ·cases he
    ·rename_i hh;simpa using hh
  have:=(bare_eq hb).1 k
  omega
def stepsOf (su:Setup) (p:PrM):Nat:=1+p.ops.length+(p.ops.map fun o=>cdiv o.text.size su.out.toNat).sum
section
variable {cs:St} {K:Value→SP}
theorem c13t {su:Setup} {p:PrM} {v:List Value} (r:PrR cs v p) (hs:good su=true) (hg:goodP p=true) (hf:p.Fit) (h:K (.int .i64 (stepsOf su p)) cs):fn 13 [.agg ⟨suC su⟩,.agg ⟨v⟩] K cs:=up0 (f13 (by
 obtain⟨a,n,c,L,hv,h2,h3,h4⟩:=r.h
 subst hv
 obtain⟨g1,g2,g3,g4⟩:=goodP_facts hg
 have hgf:=good_facts hs
 have hn:=h2.len
 have hn':n=p.ops.length:=by rw [←h3,List.length_map,hn]
 have rw1:Rw 97 7 cs a n c encOp L:=⟨h2⟩
 unfold s13
 refine go fun b1 b2=> ?_
 refine⟨fun _ c1=>Imp c1 (bk b2 45 (prCells p a n c)::bk b1 23 (suC su)::cs),fun _ c1 hc=>⟨_,hc,?_⟩,?_⟩
 ·refine go ?_
  have e1:w64 (1+(n:Int))=((1+n:Nat):Int):=by rw [w64_id (by omega)];omega
  rw [e1]
  have hd:0<su.out.toNat:=by omega
  have hsz:∀o∈p.ops,o.text.size≤256:=fun o ho=>text_le (g4 o ho)
  have hsum:∀l:List OpM,(∀o∈l,o.text.size≤256)→(l.map fun o=>cdiv o.text.size su.out.toNat).sum≤256*l.length:=by
   intro l
   induction l with
   | nil=>intro _;simp
   | cons o l ih=>
    intro hh
    have h1:=cdiv_le (n:=o.text.size) hd
    have h2:=hh o (by simp)
    have h3:=ih fun x hx=>hh x (by simp [hx])
    simp only [List.map_cons,List.sum_cons,List.length_cons]
    omega
  have htot:=hsum p.ops hsz
  refine lp (fun y:Nat×Nat=>[.int .i64 y.1,.int .i64 y.2]) (fun _=>bk b2 45 (prCells p a n c)::bk b1 23 (suC su)::cs) (fun y=>y.2≤n∧y.1+((p.ops.drop y.2).map fun o=>cdiv o.text.size su.out.toNat).sum=stepsOf su p) (fun y=>n-y.2) (1+n,0) rfl (Imp.refl _) ⟨Nat.zero_le _,by rw [List.drop_zero];unfold stepsOf;omega⟩ ?_
  rintro⟨m,i⟩ ⟨i1,i2⟩
  dsimp only at *
  refine go ?_
  simp only [decide_eq_true_eq,decide_eq_false_iff_not,Int.toNat_natCast]
  refine⟨fun c0=>⟨by omega,fun x hx=> ?_⟩,fun c0=> ?_⟩
  ·have ho:p.ops[i]? =some x.1:=by rw [←h3,List.getElem?_map,hx];rfl
   have hol:=lt_of_get ho
   have ed:p.ops.drop i=x.1::p.ops.drop (i+1):=by
    rw [List.drop_eq_getElem_cons hol]
    rw [List.getElem?_eq_getElem hol]at ho
    rw [Option.some.inj ho]
   have hxs:=hsz x.1 (List.mem_of_getElem? ho)
   rw [ed,List.map_cons,List.sum_cons]at i2
   have hst:stepsOf su p≤60000:=by unfold stepsOf;omega
   rw [w64_succ (by omega)]
   refine lp (fun y:Nat×Int=>[.int .i64 y.1,.int .i64 y.2]) (fun _=>bk b2 45 (prCells p a n c)::bk b1 23 (suC su)::cs) (fun y=>y.2≤256∧-4096≤y.2∧y.1+cdiv y.2.toNat su.out.toNat+((p.ops.drop (i+1)).map fun o=>cdiv o.text.size su.out.toNat).sum=stepsOf su p) (fun y=>y.2.toNat) (m,x.1.text.size) rfl (Imp.refl _) ⟨by simp only;omega,by simp only;omega,by simp only [Int.toNat_natCast];omega⟩ ?_
   rintro⟨q,k⟩ ⟨k1,k2,k3⟩
   dsimp only at *
   refine go ?_
   simp only [decide_eq_true_eq,decide_eq_false_iff_not]
   refine⟨fun c1=> ?_,fun c1=>⟨(q,i+1),rfl,Imp.refl _,⟨by simp only;omega,?_⟩,by simp only;omega⟩⟩
   ·have hcd:=cdiv_succ (k:=k) (d:=su.out) (by omega) (by omega)
    refine⟨(q+1,k-su.out),by rw [w64_succ (by omega),w64_id (by omega)],Imp.refl _,⟨by simp only;omega,by simp only;omega,by simp only;omega⟩,by simp only;omega⟩
   ·have hz:cdiv k.toNat su.out.toNat=0:=by
     have:=cdiv_le (n:=k.toNat) hd
     omega
    simp only;omega
  ·have e:p.ops.drop i=[]:=List.drop_eq_nil_of_le (by omega)
   rw [e]at i2
   have i2:m=stepsOf su p:=by simpa using i2
   rw [i2]
   exact fin h
 ·refine go ?_
  rw [hs]
  refine⟨fun c0=>absurd c0 (by decide),fun _=>c42t inferInstance hg hf ?_⟩
  exact go ⟨fun c0=>absurd c0 (by decide),fun _=>Imp.refl _⟩))
end
section
variable {cs:St} {K:Value→SP}
theorem c9t {su:Setup} {src:ByteArray} {sa ra:Option Addr} {sn sc rn rc:Nat} {ps0:List PrM} {A:Chunk} {R:List RoV} (g:Glob cs) (rs:PrsR cs sa sn sc ps0) (hf:∀p∈ps0,p.Fit) (hn:sn≤1000000000)
  (v:Vie 73 6 ra rn rc encRo R A) (hR:∀y∈R,y.Ok A) (q:In cs A) (hrn:rn≤1000000000) (hs:roSum R≤1000000000000)
  (hlen:good su=true→∀ps:List PrM,(∀p∈ps,p.Fit)→ps.length≤64→(FairM.run su ps (R.map RoV.m)).out.length<999999999990)
  (h1:∀(a:Option Addr) (n c:Nat) (t1 t2 t3:Int),K (.tuple ⟨[.slice a n c,.agg ⟨[.int .i64 t1,.int .i64 t2,.int .i64 t3]⟩,.slice none 0 0,.bool false,.bool true]⟩) cs)
  (h2:good su=true→∀(a:Option Addr) (n c:Nat) (ch P:Chunk) (ps:List PrM),PrsR (ch::P::cs) a n c ps→(∀p∈ps,p.Fit)→n=ps.length→n≤64→∀(oa:Option Addr) (on oc:Nat) (och:Chunk) (t1 t2 t3:Int),Row 101 12 oa on oc encEv (FairM.run su ps (R.map RoV.m)).out och→
   K (.tuple ⟨[.slice a n c,.agg ⟨[.int .i64 t1,.int .i64 t2,.int .i64 t3]⟩,.slice oa on oc,.bool true,.bool true]⟩) (och::ch::P::cs)):
  fn 9 [.agg ⟨stageC su src sa sn sc ra rn rc⟩] K cs:=up0 (f9 (by
 unfold s9
 refine go fun b1 b2=> ?_
 refine c27t (cs0:=cs) (fun x hx=>by simp only [List.flatten_cons,List.mem_append];exact .inr (.inr hx)) inferInstance rs hf hn fun a n c ch P ps rp0 hfp hnp=> ?_
 have rp:PrsR (ch::P::bk b2 29 [.int .i64 0,.int .i64 0,.int .i64 0]::bk b1 27 (stageC su src sa sn sc ra rn rc)::cs) a n c ps:=rp0.sub fun x hx=>by
  simp only [List.flatten_cons,List.mem_append]at hx ⊢
  rcases hx with hx | hx | hx
  ·exact .inl hx
  ·exact .inr (.inl hx)
  ·exact .inr (.inr (.inr (.inr hx)))
 have rp:=rp
 refine go ?_
 refine c34t (su:=su) (A:=A) inferInstance v hR inferInstance hfp hrn hs (fun gd=> ?_) (fun gd hn64=> ?_) (fun gd hn64=>⟨hlen gd ps hfp (by omega),fun oa on oc och z hro=> ?_⟩)
 ·refine goj ⟨fun _=>⟨fun _=>⟨fun e=>absurd e (by decide),fun _=>fin (h1 a n c 0 0 0)⟩,fun e=>absurd e (by decide)⟩,fun e=>absurd e (by rw [gd];decide)⟩
 ·refine goj ⟨fun e=>absurd e (by rw [gd];decide),fun _=>⟨fun _=>⟨fun _=>⟨fun e=>absurd e (by decide),fun _=>fin (h1 a n c 0 0 0)⟩,fun e=>absurd e (by decide)⟩,fun e=>absurd e (by simp only [decide_eq_false_iff_not];omega)⟩⟩
 ·refine goj ⟨fun e=>absurd e (by rw [gd];decide),fun _=>⟨fun e=>absurd e (by simp only [decide_eq_true_eq];omega),fun _=>⟨fun _=>⟨fun _=> ?_,fun e=>absurd e (by decide)⟩,fun e=>absurd e (by decide)⟩⟩⟩
  exact⟨och::ch::P::cs,drp,h2 gd a n c ch P ps rp0 hfp hnp hn64 oa on oc och _ _ _ hro⟩))
end
end Go.Proofs.YtbjlfobjngogkaaGreatDoor
namespace Go.Proofs.YtbjlfobjngogkaaGreatDoor
structure InM where
 kind:Int
 bytes:ByteArray
 n:Int
 tick:Int
structure OutM where
 n:Int
 bytes:ByteArray
 step:StepM
 did:Bool
def OutM.zero:OutM:=⟨0,.empty,StepM.zero,false⟩
structure LifeM where
 id:Int
 script:Int
 from_:Int
 ins:List InM
 steps:List StepM
 read:ByteArray
 taken:ByteArray
 eof:Bool
 status:Int
 want:List OutM
def LifeM.new (id:Int):LifeM:=⟨id,0,0,[],[],.empty,.empty,false,0,[]⟩
def LifeM.push (f:LifeM) (i:InM) (o:OutM):LifeM:={f with ins:=f.ins++[i],want:=f.want++[o]}
def LifeM.add (f:LifeM) (x:EvM):LifeM:=
 if x.kind=7∧f.status=0 then f.push ⟨4,.empty,0,x.tick⟩ .zero
 else if x.id≠f.id then f
 else if x.kind=4 then({f with read:=f.read++x.bytes}:LifeM).push ⟨1,x.bytes,0,0⟩ ⟨x.bytes.size,.empty,.zero,false⟩
 else if x.kind=5 then({f with eof:=true}:LifeM).push ⟨2,.empty,0,0⟩ ⟨0,.empty,.zero,true⟩
 else if x.kind=6 then({f with taken:=f.taken++x.bytes}:LifeM).push ⟨3,.empty,x.n,0⟩ ⟨0,x.bytes,.zero,false⟩
 else if x.kind=8 then({f with steps:=f.steps++[x.step],status:=x.step.status}:LifeM).push ⟨5,.empty,0,x.step.tick⟩ ⟨0,.empty,x.step,true⟩
 else f
def EvM.opens (id:Int) (x:EvM):Bool:=decide (x.kind=2∧x.id=id)
def from1 (t:Int) (x:EvM):Int:=if x.kind=1 then x.tick else t
def lifeOf (l:List EvM) (id:Int):Option LifeM:=
 if l.findIdx (EvM.opens id)<l.length then
  some ((l.drop (l.findIdx (EvM.opens id)+1)).foldl LifeM.add {LifeM.new id with from_:=(l.take (l.findIdx (EvM.opens id))).foldl from1 0,script:=((l.drop (l.findIdx (EvM.opens id))).head?.map EvM.n).getD 0})
 else none
def evSum (l:List EvM):Nat:=(l.map fun x=>x.bytes.size).sum
end Go.Proofs.YtbjlfobjngogkaaGreatDoor
namespace Go.Proofs.YtbjlfobjngogkaaGreatDoor
open Go
set_option synthInstance.maxSize 100000
set_option synthInstance.maxHeartbeats 1000000
set_option maxRecDepth 100000
@[reducible] def encIn:Enc InM 4:=⟨fun x=>[.int .i64 x.kind,.string x.bytes,.int .i64 x.n,.int .i64 x.tick],by omega,fun _=>rfl⟩
@[reducible] def encSt:Enc StepM 6:=⟨stC,by omega,fun _=>rfl⟩
@[reducible] def encOut:Enc OutM 9:=⟨fun x=>[.int .i64 x.n,.string x.bytes,.int .i64 x.step.tick,.int .i64 x.step.at_,.int .i64 x.step.what,.int .i64 x.step.arm,.int .i64 x.step.n,.int .i64 x.step.status,.bool x.did],by omega,fun _=>rfl⟩
structure Lf where
 m:LifeM
 ia:Option Addr
 ic:Nat
 ich:Chunk
 sa:Option Addr
 sc:Nat
 sch:Chunk
 wa:Option Addr
 wc:Nat
 wch:Chunk
 ir:Row 228 4 ia m.ins.length ic encIn m.ins ich
 sr:Row 99 6 sa m.steps.length sc encSt m.steps sch
 wr:Row 226 9 wa m.want.length wc encOut m.want wch
@[reducible] def lfCells (f:Lf):List Value:=[.int .i64 f.m.id,.int .i64 f.m.script,.int .i64 f.m.from_,.slice f.ia f.m.ins.length f.ic,.slice f.sa f.m.steps.length f.sc,.string f.m.read,.string f.m.taken,.bool f.m.eof,.int .i64 f.m.status]
abbrev lfSt (a b:Nat) (f:Lf):St:=[bk a 39 (lfCells f),f.ich,f.sch,bk b 91 [.slice f.wa f.m.want.length f.wc],f.wch]
section
variable {F:St} {K:Value→SP} {a b:Nat}
theorem lf_push {f:Lf} {m:LifeM} {i:InM} {o:OutM} {ia wa:Option Addr} {ic wc:Nat} {ich wch:Chunk} {c:St} {u:Value} (hm1:m.ins=f.m.ins) (hm2:m.want=f.m.want) {sa:Option Addr} {sc:Nat} {sch:Chunk} (sr:Row 99 6 sa m.steps.length sc encSt m.steps sch)
  (r1:Row 228 4 ia (f.m.ins.length+1) ic encIn (f.m.ins++[i]) ich) (r2:Row 226 9 wa (f.m.want.length+1) wc encOut (f.m.want++[o]) wch)
  (hi:Imp c (bk a 39 [.int .i64 m.id,.int .i64 m.script,.int .i64 m.from_,.slice ia (f.m.ins.length+1) ic,.slice sa m.steps.length sc,.string m.read,.string m.taken,.bool m.eof,.int .i64 m.status]::ich::sch::bk b 91 [.slice wa (f.m.want.length+1) wc]::wch::F))
  (h:∀f':Lf,f'.m=m.push i o→K u (lfSt a b f'++F)):Up K u c:=by
 let f':Lf:=⟨m.push i o,ia,ic,ich,sa,sc,sch,wa,wc,wch,by unfold LifeM.push;simp only;rw [hm1,List.length_append,List.length_singleton];exact r1,sr,by unfold LifeM.push;simp only;rw [hm2,List.length_append,List.length_singleton];exact r2⟩
 refine⟨_,hi.trans ?_,h f' rfl⟩
 have e1:f'.m.ins.length=f.m.ins.length+1:=by show(m.ins++[i]).length=_;rw [hm1,List.length_append,List.length_singleton]
 have e2:f'.m.want.length=f.m.want.length+1:=by show(m.want++[o]).length=_;rw [hm2,List.length_append,List.length_singleton]
 dsimp only [lfSt,lfCells]
 rw [e1,e2]
 exact Imp.refl _
theorem c112t {f:Lf} {x:EvM} (h1:f.m.ins.length≤1000000000000∧f.m.steps.length≤1000000000000∧f.m.want.length≤1000000000000) (h2:f.m.read.size+x.bytes.size≤9000000000000000000∧f.m.taken.size+x.bytes.size≤9000000000000000000)
  (h:∀f':Lf,f'.m=f.m.add x→K undef (lfSt a b f'++F)):fn 112 [.pointer (some (ad a 0)),.agg ⟨evCells x⟩,.pointer (some (ad b 0))] K (lfSt a b f++F):=up0 (f112 (by
 obtain⟨g1,g2,g3⟩:=h1
 obtain⟨g4,g5⟩:=h2
 have ir:=f.ir
 have sr:=f.sr
 have wr:=f.wr
 unfold s112
 simp only [List.cons_append,List.nil_append]
 refine goj ?_
 simp only [beq_iff_eq,beq_eq_false_iff_ne,bne_iff_ne,ne_eq,bne_eq_false_iff_eq]
 intro b1 b2 b3
 have add7:x.kind=7→f.m.status=0→f.m.add x=f.m.push ⟨4,.empty,0,x.tick⟩ .zero:=fun e1 e2=>by unfold LifeM.add;rw [if_pos ⟨e1,e2⟩]
 have addN:¬(x.kind=7∧f.m.status=0)→x.id≠f.m.id→f.m.add x=f.m:=fun e1 e2=>by unfold LifeM.add;rw [if_neg e1,if_pos e2]
 have same:f.m.add x=f.m→∀{c:St},Imp c (bk a 39 (lfCells f)::f.ich::f.sch::bk b 91 [Value.slice f.wa f.m.want.length f.wc]::f.wch::F)→Up K undef c:=fun e c hi=>⟨_,hi,h f e.symm⟩
 refine⟨fun k7=>⟨fun s0=> ?_,fun s0=>⟨fun hid=>same (addN (by omega) hid) drp,fun hid=> ?_⟩⟩,fun k7=>⟨fun hid=>same (addN (by omega) hid) drp,fun hid=> ?_⟩⟩
 ·refine⟨by omega,fun b4=>⟨⟨by omega,by omega⟩,⟨4,.empty,0,x.tick⟩,rfl,fun ia ic ich r1=>⟨by omega,fun b5=>⟨⟨by omega,by omega⟩,.zero,rfl,fun wa wc wch r2=> ?_⟩⟩⟩⟩
  exact lf_push (m:=f.m) rfl rfl sr r1 r2 drp fun f' hf'=>h f' (hf'.trans (add7 k7 s0).symm)
 ·refine⟨fun k4=>absurd k4 (by omega),fun k4=>⟨fun k5=>absurd k5 (by omega),fun k5=>⟨fun k6=>absurd k6 (by omega),fun k6=>⟨fun k8=>absurd k8 (by omega),fun k8=>same ?_ drp⟩⟩⟩⟩
  unfold LifeM.add
  rw [if_neg (by omega),if_neg (by simp [hid]),if_neg k4,if_neg k5,if_neg k6,if_neg k8]
 ·have n7:¬(x.kind=7∧f.m.status=0):=by omega
  have nid:¬x.id≠f.m.id:=by simp [hid]
  refine⟨fun k4=>⟨by omega,?_⟩,fun k4=>⟨fun k5=> ?_,fun k5=>⟨fun k6=>⟨by omega,?_⟩,fun k6=>⟨fun k8=> ?_,fun k8=>same ?_ drp⟩⟩⟩⟩
  ·refine go ?_
   refine⟨by omega,fun b4=>⟨⟨by omega,by omega⟩,⟨1,x.bytes,0,0⟩,rfl,fun ia ic ich r1=>⟨by omega,fun b5=>⟨⟨by omega,by omega⟩,⟨x.bytes.size,.empty,.zero,false⟩,rfl,fun wa wc wch r2=> ?_⟩⟩⟩⟩
   exact lf_push (m:={f.m with read:=f.m.read++x.bytes}) rfl rfl sr r1 r2 (by dsimp only;exact drp) fun f' hf'=>h f' (hf'.trans (by unfold LifeM.add;rw [if_neg n7,if_neg nid,if_pos k4]))
  ·refine⟨by omega,fun b4=>⟨⟨by omega,by omega⟩,⟨2,.empty,0,0⟩,rfl,fun ia ic ich r1=>⟨by omega,fun b5=>⟨⟨by omega,by omega⟩,⟨0,.empty,.zero,true⟩,rfl,fun wa wc wch r2=> ?_⟩⟩⟩⟩
   exact lf_push (m:={f.m with eof:=true}) rfl rfl sr r1 r2 (by dsimp only;exact drp) fun f' hf'=>h f' (hf'.trans (by unfold LifeM.add;rw [if_neg n7,if_neg nid,if_neg k4,if_pos k5]))
  ·refine go ?_
   refine⟨by omega,fun b4=>⟨⟨by omega,by omega⟩,⟨3,.empty,x.n,0⟩,rfl,fun ia ic ich r1=>⟨by omega,fun b5=>⟨⟨by omega,by omega⟩,⟨0,x.bytes,.zero,false⟩,rfl,fun wa wc wch r2=> ?_⟩⟩⟩⟩
   exact lf_push (m:={f.m with taken:=f.m.taken++x.bytes}) rfl rfl sr r1 r2 (by dsimp only;exact drp) fun f' hf'=>h f' (hf'.trans (by unfold LifeM.add;rw [if_neg n7,if_neg nid,if_neg k4,if_neg k5,if_pos k6]))
  ·refine⟨by omega,fun b4=>⟨⟨by omega,by omega⟩,x.step,rfl,fun sa sc sch r0=> ?_⟩⟩
   refine go ?_
   refine⟨by omega,fun b5=>⟨⟨by omega,by omega⟩,⟨5,.empty,0,x.step.tick⟩,rfl,fun ia ic ich r1=>⟨by omega,fun b6=>⟨⟨by omega,by omega⟩,⟨0,.empty,x.step,true⟩,rfl,fun wa wc wch r2=> ?_⟩⟩⟩⟩
   have e1:(f.m.steps++[x.step]).length=f.m.steps.length+1:=by rw [List.length_append,List.length_singleton]
   exact lf_push (m:={f.m with steps:=f.m.steps++[x.step],status:=x.step.status}) rfl rfl (by dsimp only;rw [e1];exact r0) r1 r2 (by dsimp only;rw [e1];exact drp) fun f' hf'=>h f' (hf'.trans (by unfold LifeM.add;rw [if_neg n7,if_neg nid,if_neg k4,if_neg k5,if_neg k6,if_pos k8]))
  ·unfold LifeM.add
   rw [if_neg n7,if_neg nid,if_neg k4,if_neg k5,if_neg k6,if_neg k8]))
theorem add_len (f:LifeM) (x:EvM):(f.add x).ins.length≤f.ins.length+1∧(f.add x).steps.length≤f.steps.length+1∧(f.add x).want.length≤f.want.length+1∧(f.add x).read.size≤f.read.size+x.bytes.size∧(f.add x).taken.size≤f.taken.size+x.bytes.size:=by
 unfold LifeM.add LifeM.push
 split
 ·simp
 split
 ·simp
 repeat' (first | (simp;done) | split)
theorem c111t {id:Int} {x:EvM} {q:Nat} {cs:St} (r:RdB cs q 3 [.int .i64 id]) (h:K (.bool (x.opens id)) cs):fn 111 [.agg ⟨evCells x⟩,.pointer (some (ad q 0))] K cs:=up0 (f111 (by
 unfold s111
 refine go fun b1=> ?_
 simp only [beq_iff_eq,beq_eq_false_iff_ne]
 unfold EvM.opens at h
 refine⟨fun c1=> ?_,fun c1=> ?_⟩
 ·have e:(x.id == id)=decide (x.kind=2∧x.id=id):=by
   by_cases c:x.id=id <;>simp [c1,c]
  rw [e];exact fin h
 ·rw [decide_eq_false (by simp [c1])]at h;exact fin h))
theorem c110t {id:Int} {q:Nat} {cs:St} {a:Option Addr} {n c:Nat} {L:List EvM} (r:Rw 101 12 cs a n c encEv L) (rq:RdB cs q 3 [.int .i64 id]) (hn:n≤4000000000000)
  (h:K (.int .i64 (if L.findIdx (EvM.opens id)<L.length then(L.findIdx (EvM.opens id):Int)else -1)) cs):fn 110 [.slice a n c,.func (.func 111) ⟨[]⟩ ⟨[.pointer (some (ad q 0))]⟩] K cs:=up0 (f110 (by
 unfold s110
 have hl:=r.h.len
 refine lp (fun i:Nat=>[.int .i64 i]) (fun _=>cs) (fun i=>i≤n∧i≤L.findIdx (EvM.opens id)) (fun i=>n-i) 0 rfl (Imp.refl _) ⟨Nat.zero_le _,Nat.zero_le _⟩ ?_
 rintro i ⟨i1,i2⟩
 refine go ?_
 simp only [decide_eq_true_eq,decide_eq_false_iff_not,Int.toNat_natCast,List.cons_append,List.nil_append]
 refine⟨fun c0=>⟨by omega,fun y hy=> ?_⟩,fun c0=> ?_⟩
 ·refine c111t (x:=y) rq ?_
  have hil:=lt_of_get hy
  have hyl:L[i]=y:=by
   rw [List.getElem?_eq_getElem hil]at hy;exact Option.some.inj hy
  refine go ⟨fun c1=> ?_,fun c1=> ?_⟩
  ·have e:L.findIdx (EvM.opens id)=i:=by
    refine Nat.le_antisymm ?_ i2
    rcases Nat.lt_or_ge i (L.findIdx (EvM.opens id))with h1 | h1
    ·have:=List.not_of_lt_findIdx h1
     rw [hyl,c1]at this;cases this
    ·exact h1
   rw [e,if_pos hil]at h
   exact⟨cs,Imp.refl _,h⟩
  ·refine⟨i+1,by rw [w64_succ (by omega)],Imp.refl _,⟨by omega,?_⟩,by omega⟩
   rcases Nat.lt_or_ge i (L.findIdx (EvM.opens id))with h1 | h1
   ·exact h1
   ·exfalso
    have e:L.findIdx (EvM.opens id)=i:=Nat.le_antisymm h1 i2
    have:=List.findIdx_getElem (xs:=L) (p:=EvM.opens id) (w:=by rw [e];exact hil)
    simp only [e]at this
    rw [hyl,c1]at this;cases this
 ·have e:i=n:=by omega
  rw [if_neg (by omega)]at h
  exact⟨cs,Imp.refl _,h⟩))
instance fdEvN:FdI encEv 2 .i64 EvM.n:=⟨fun _=>rfl⟩
@[reducible] def lfNil:List Value:=[.int .i64 0,.int .i64 0,.int .i64 0,.slice none 0 0,.slice none 0 0,.string .empty,.string .empty,.bool false,.int .i64 0]
theorem evSum_drop (l:List EvM) (i:Nat):evSum (l.drop i)≤evSum l:=by
 have:evSum l=evSum (l.take i)+evSum (l.drop i):=by
  conv=>lhs;rw [←List.take_append_drop i l]
  rw [evSum,List.map_append,List.sum_append];rfl
 omega
theorem c41t {cs:St} {a:Option Addr} {n c:Nat} {L:List EvM} {ch:Chunk} {put:Chunk→St} {id:Int} (r:Row 101 12 a n c encEv L ch) (at_:ChAt cs ch put) (hn:n≤999999999990) (hs:evSum L≤9000000000000000000)
  (h0:lifeOf L id=none→K (.tuple ⟨[.agg ⟨[.int .i64 0,.int .i64 0,.int .i64 0,.slice none 0 0,.slice none 0 0,.string (bs []),.string (bs []),.bool false,.int .i64 0]⟩,.slice none 0 0,.bool false]⟩) cs)
  (h1:∀f:Lf,lifeOf L id=some f.m→K (.tuple ⟨[.agg ⟨lfCells f⟩,.slice f.wa f.m.want.length f.wc,.bool true]⟩) (f.ich::f.sch::f.wch::cs)):
  fn 41 [.slice a n c,.int .i64 id] K cs:=up0 (f41 (by
 unfold s41
 have hl:=r.len
 refine go fun b1 b2 b3 b4=> ?_
 refine c110t (L:=L) (id:=id) inferInstance inferInstance (by omega) ?_
 unfold lifeOf at h0 h1
 generalize hk:L.findIdx (EvM.opens id)=k at *
 refine go ⟨fun c0=> ?_,fun c0=> ?_⟩
 ·have hkl:¬k<L.length:=fun hh=>by rw [if_pos hh]at c0;simp at c0;omega
  rw [if_neg hkl]at h0
  exact fin (h0 rfl)
 ·have hkl:k<L.length:=by
   rcases Nat.lt_or_ge k L.length with hh | hh
   ·exact hh
   ·rw [if_neg (by omega)]at c0;simp at c0
  rw [if_pos hkl]at h1
  rw [if_pos hkl]
  simp only [Int.toNat_natCast]
  refine⟨⟨by omega,by omega⟩,fun rt=> ?_⟩
  have htl:=rt.len
  refine lp (fun y:Nat×Int=>[.int .i64 y.1]) (fun y=>bk b4 91 [.slice none 0 0]::bk b3 39 [.int .i64 id,.int .i64 0,.int .i64 y.2,.slice none 0 0,.slice none 0 0,.string (bs []),.string (bs []),.bool false,.int .i64 0]::bk b2 39 lfNil::bk b1 3 [.int .i64 id]::cs)
   (fun y=>y.1≤k∧((L.take k).drop y.1).foldl from1 y.2=(L.take k).foldl from1 0) (fun y=>k-y.1) (0,0) rfl drp ⟨Nat.zero_le _,by rw [List.drop_zero]⟩ ?_
  rintro⟨i,t⟩ ⟨i1,i2⟩
  dsimp only at *
  refine go ?_
  simp only [decide_eq_true_eq,decide_eq_false_iff_not,Int.toNat_natCast,beq_iff_eq,beq_eq_false_iff_ne]
  refine⟨fun c1=>⟨by omega,fun y hy b5=> ?_⟩,fun c1=>⟨by omega,fun z hz=> ?_⟩⟩
  ·have hil:=lt_of_get hy
   have ed:(L.take k).drop i=y::(L.take k).drop (i+1):=by
    rw [List.drop_eq_getElem_cons hil]
    rw [List.getElem?_eq_getElem hil]at hy
    rw [Option.some.inj hy]
   rw [ed,List.foldl_cons]at i2
   rw [w64_succ (by omega)]
   refine⟨fun c2=>⟨(i+1,y.tick),rfl,drp,⟨by simp only;omega,?_⟩,by simp only;omega⟩,fun c2=>⟨(i+1,t),rfl,drp,⟨by simp only;omega,?_⟩,by simp only;omega⟩⟩
   ·rw [←i2];simp only [from1,if_pos c2]
   ·rw [←i2];simp only [from1,if_neg c2]
  ·have e:i=k:=by omega
   subst e
   rw [List.drop_eq_nil_of_le (by rw [List.length_take];omega),List.foldl_nil]at i2
   have hz':((L.drop i).head?.map EvM.n).getD 0=z.n:=by
    rw [List.head?_drop,hz];rfl
   rw [hz',←i2]at h1
   rw [w64_succ (by omega)]
   clear rt
   refine⟨⟨by omega,by omega⟩,fun a' rd=> ?_⟩
   simp only [Int.toNat_natCast]at rd ⊢
   have rd:=rd
   have hdl:=rd.len
   let f0:Lf:=⟨{LifeM.new id with from_:=t,script:=z.n},none,0,[],none,0,[],none,0,[],⟨Sl.nil⟩,⟨Sl.nil⟩,⟨Sl.nil⟩⟩
   refine lp (fun y:Nat×Lf=>[.int .i64 y.1]) (fun y=>lfSt b3 b4 y.2++(bk b2 39 lfNil::cs)) (fun y=>y.1≤n-(i+1)∧((L.drop (i+1)).drop y.1).foldl LifeM.add y.2.m=(L.drop (i+1)).foldl LifeM.add f0.m∧y.2.m.ins.length≤y.1∧y.2.m.steps.length≤y.1∧y.2.m.want.length≤y.1∧y.2.m.read.size+evSum ((L.drop (i+1)).drop y.1)≤9000000000000000000∧y.2.m.taken.size+evSum ((L.drop (i+1)).drop y.1)≤9000000000000000000) (fun y=>n-y.1)
    (0,f0) rfl ?_ ⟨Nat.zero_le _,by rw [List.drop_zero],Nat.le_refl _,Nat.le_refl _,Nat.le_refl _,?_,?_⟩ ?_
   ·refine Imp.trans (b:=bk b3 39 (lfCells f0)::[]::[]::bk b4 91 [.slice f0.wa f0.m.want.length f0.wc]::[]::bk b2 39 lfNil::cs) (by rw [bs_nil];dsimp only [lfCells,f0,LifeM.new,List.length_nil];exact drp) (Imp.refl _)
   ·simp only [List.drop_zero]
    have:=evSum_drop L (i+1)
    show(0:Nat)+_≤_
    omega
   ·simp only [List.drop_zero]
    have:=evSum_drop L (i+1)
    show(0:Nat)+_≤_
    omega
   rintro⟨j,f⟩ ⟨j1,j2,j3,j4,j5,j6,j7⟩
   dsimp only at *
   simp only [List.cons_append,List.nil_append]
   refine go ?_
   simp only [decide_eq_true_eq,decide_eq_false_iff_not,Int.toNat_natCast]
   refine⟨fun c2=>⟨by omega,fun y hy b6=> ?_⟩,fun c2=> ?_⟩
   ·have hil:=lt_of_get hy
    have ed:(L.drop (i+1)).drop j=y::(L.drop (i+1)).drop (j+1):=by
     rw [List.drop_eq_getElem_cons hil]
     rw [List.getElem?_eq_getElem hil]at hy
     rw [Option.some.inj hy]
    rw [ed]at j2 j6 j7
    rw [List.foldl_cons]at j2
    have es:evSum (y::(L.drop (i+1)).drop (j+1))=y.bytes.size+evSum ((L.drop (i+1)).drop (j+1)):=by simp [evSum]
    rw [es]at j6 j7
    refine fn_imp (cs':=lfSt b3 b4 f++(bk b6 101 (evCells y)::bk b2 39 lfNil::cs)) (by simp only [List.cons_append,List.nil_append];exact drp) ?_
    refine c112t ⟨by omega,by omega,by omega⟩ ⟨by omega,by omega⟩ fun f' hf'=> ?_
    have hal:=add_len f.m y
    rw [←hf']at hal j2
    rw [w64_succ (by omega)]
    exact⟨[],rfl,(j+1,f'),rfl,by simp only [List.cons_append,List.nil_append];exact drp,⟨by simp only;omega,j2,by simp only;omega,by simp only;omega,by simp only;omega,by simp only;omega,by simp only;omega⟩,by simp only;omega⟩
   ·have e:j=n-(i+1):=by omega
    rw [List.drop_eq_nil_of_le (by omega),List.foldl_nil]at j2
    have:=h1 f (by rw [j2])
    exact fin this))
theorem c12t {cs:St} {a:Option Addr} {n c:Nat} {L:List EvM} {ch:Chunk} {put:Chunk→St} {id:Int} (r:Row 101 12 a n c encEv L ch) (at_:ChAt cs ch put) (hn:n≤999999999990) (hs:evSum L≤9000000000000000000)
  (h0:lifeOf L id=none→K (.tuple ⟨[.agg ⟨[.int .i64 0,.int .i64 0,.int .i64 0,.slice none 0 0,.slice none 0 0,.string (bs []),.string (bs []),.bool false,.int .i64 0]⟩,.bool false]⟩) cs)
  (h1:∀f:Lf,lifeOf L id=some f.m→K (.tuple ⟨[.agg ⟨lfCells f⟩,.bool true]⟩) (f.ich::f.sch::cs)):
  fn 12 [.slice a n c,.int .i64 id] K cs:=up0 (f12 (by
 unfold s12
 refine go fun b1=> ?_
 refine c41t (L:=L) r inferInstance hn hs (fun e=> ?_) (fun f e=> ?_)
 ·exact go fun b2=>fin (h0 e)
 ·exact go fun b2=>fin (h1 f e)))
end
theorem compact_mem (l:List Int):∀x∈Lib.compact l,x∈l:=fun x hx=>by
 unfold Lib.compact Lib.compactUpTo at hx
 obtain⟨j,hj,rfl⟩:=List.mem_map.1 hx
 have hj2:=List.mem_range.1 (List.mem_filter.1 hj).1
 have:l.toArray[j]! =l[j]:=by simp [hj2]
 rw [this]
 exact List.getElem_mem hj2
theorem compact_len (l:List Int):(Lib.compact l).length≤l.length:=by
 unfold Lib.compact Lib.compactUpTo
 rw [List.length_map]
 exact Nat.le_trans (List.length_filter_le _ _) (by simp)
def opened (L:List EvM) (id:Int):Prop:=∃e∈L,e.kind=2∧e.id=id
theorem opened_life {L:List EvM} {id:Int} (h:opened L id):lifeOf L id≠none:=by
 obtain⟨e,he,h1,h2⟩:=h
 have:L.findIdx (EvM.opens id)<L.length:=List.findIdx_lt_length_of_exists ⟨e,he,by simp [EvM.opens,h1,h2]⟩
 unfold lifeOf
 rw [if_pos this]
 simp
section
variable {cs:St} {K:Value→SP}
theorem c40t {a:Option Addr} {n c:Nat} {L:List EvM} (r:Rw 101 12 cs a n c encEv L) (hn:n≤999999999990) (h:∀(a':Option Addr) (n' c':Nat) (ch':Chunk) (l:List Int),Row 3 1 a' n' c' encI64 l ch'→(∀id∈l,opened L id)→n'≤1000000000000→K (.slice a' n' c') (ch'::cs)):fn 40 [.slice a n c] K cs:=up0 (f40 (by
 have r:=r
 unfold s40
 refine lp (α:=Nat×(Option Addr×Nat×Chunk)×List Int) (fun x=>[.slice x.2.1.1 x.2.2.length x.2.1.2.1,.int .i64 x.1]) (fun x=>x.2.1.2.2::cs)
  (fun x=>x.1≤n∧x.2.2.length≤x.1∧Row 3 1 x.2.1.1 x.2.2.length x.2.1.2.1 encI64 x.2.2 x.2.1.2.2∧∀id∈x.2.2,opened L id) (fun x=>n-x.1) (0,(none,0,[]),[]) rfl drp ⟨Nat.zero_le _,Nat.zero_le _,⟨Sl.nil⟩,(fun y hy=>nomatch hy)⟩ ?_
 rintro⟨i,⟨oa,oc,och⟩,l⟩ ⟨h1,h2,h3,h4⟩
 dsimp only at h1 h2 h3 h4 ⊢
 have h3:=h3
 refine go ⟨fun c0=>⟨⟨by omega,by simpa using c0⟩,fun e he b1=>⟨fun c1=> ?_,fun c1=> ?_⟩⟩,fun c0=> ?_⟩
 ·have hlt:i<n:=by simpa using c0
  refine⟨⟨by decide,by omega,by omega⟩,e.id,rfl,fun a' c' ch' r2=> ?_⟩
  have e1:l.length+1=(l++[e.id]).length:=by simp
  refine⟨(i+1,(a',c',ch'),l++[e.id]),by rw [←e1,w64_succ (by omega)],drp,⟨hlt,by dsimp only;rw [←e1];omega,by rw [←e1];exact r2,fun z hz=> ?_⟩,by show _-(i+1)<_;omega⟩
  rcases List.mem_append.1 hz with hz | hz
  ·exact h4 z hz
  ·rw [List.mem_singleton]at hz;subst hz
   exact⟨e,List.mem_of_getElem? he,by simpa using c1,rfl⟩
 ·have hlt:i<n:=by simpa using c0
  exact⟨(i+1,(oa,oc,och),l),by rw [w64_succ (by omega)],drp,⟨hlt,Nat.le_succ_of_le h2,h3,h4⟩,by show _-(i+1)<_;omega⟩
 ·refine c108t h3 inferInstance (by omega) fun ch2 r2=> ?_
  have r2:=r2
  refine go ?_
  have hlm:(l.mergeSort fun x y=>decide (x≤y)).length=l.length:=List.length_mergeSort _
  refine c109t r2 inferInstance (by omega) fun n3 ch3 r3=> ?_
  have hn3:=r3.len
  have hc3:=compact_len (l.mergeSort fun x y=>decide (x≤y))
  refine go ⟨ch3::cs,drp,h oa n3 oc ch3 _ r3 (fun id hid=> ?_) (by omega)⟩
  exact h4 id ((List.mergeSort_perm l _).mem_iff.1 (compact_mem _ id hid))))
theorem c11t {a:Option Addr} {n c:Nat} {L:List EvM} (r:Rw 101 12 cs a n c encEv L) (hn:n≤999999999990) (h:∀(a':Option Addr) (n' c':Nat) (ch':Chunk) (l:List Int),Row 3 1 a' n' c' encI64 l ch'→(∀id∈l,opened L id)→n'≤1000000000000→K (.slice a' n' c') (ch'::cs)):fn 11 [.slice a n c] K cs:=f11 (by
 unfold s11
 exact c40t r hn fun a' n' c' ch' l h1 h2 h3=>go (h a' n' c' ch' l h1 h2 h3))
end
end Go.Proofs.YtbjlfobjngogkaaGreatDoor
namespace Go.Proofs.YtbjlfobjngogkaaGreatDoor
def play1 (y:Eng×List EvM) (r:RoundM):Eng×List EvM:=(y.1.round r,y.2++(y.1.round r).out)
def playV (su:Setup) (ps:List PrM) (rs:List RoundM):List EvM:=(rs.foldl play1 (Eng.new su ps,[])).2
def open1 (y:List (Int×Int)×Bool) (x:EvM):List (Int×Int)×Bool:=
 if x.kind=2 then(if(iget y.1 x.id).isSome then y else(iset y.1 x.id 0,y.2))else if x.kind=9 then(y.1,true)else y
def end1 (m:List (Int×Int)) (x:EvM):List (Int×Int):=if(iget m x.id).isSome then(if x.kind=8 then iset m x.id x.step.status else m)else m
def endsV (l:List EvM):List (Int×Int)×Bool:=(l.foldl end1 (l.foldl open1 ([],false)).1,(l.foldl open1 ([],false)).2)
def askP:PrM:=⟨⟨⟨[97,115,107]⟩⟩,40,2,[⟨1,⟨⟨[104,105]⟩⟩,0,0,[],0,0⟩,⟨2,.empty,9,0,[⟨⟨⟨[111,107]⟩⟩,2⟩],-1,-1⟩]⟩
def askS:Setup:=⟨2,4,16,2,6,1⟩
def askR:List RoundM:=[⟨1,[0],[],[],0,false⟩,⟨1,[],[⟨0,⟨⟨[111,107]⟩⟩,false⟩],[⟨0,true,true,2⟩],0,false⟩,⟨1,[],[],[],0,false⟩,⟨1,[],[],[],0,false⟩]
theorem ask_len:(playV askS [askP] askR).length<1000:=by decide +kernel
theorem ask_ends:(endsV (playV askS [askP] askR)).1=[(0,1)]∧(endsV (playV askS [askP] askR)).2=false:=by decide +kernel
end Go.Proofs.YtbjlfobjngogkaaGreatDoor
namespace Go.Proofs.YtbjlfobjngogkaaGreatDoor
open Go
set_option synthInstance.maxSize 100000
set_option synthInstance.maxHeartbeats 1000000
set_option maxRecDepth 100000
theorem play_mono:∀(l:List RoundM) (y:Eng×List EvM),y.2.length≤(l.foldl play1 y).2.length
 | [],_=>Nat.le_refl _
 | r::l,y=>Nat.le_trans (by show y.2.length≤(y.2++(y.1.round r).out).length;simp) (play_mono l (play1 y r))
instance engEv' {x:En} {eb:Nat} {cs:St} {d:Chunk}:Rw 101 12 (d::engC eb x::cs) x.oa x.on x.oc encEv x.m.out:=⟨(engEv (x:=x) (eb:=eb) (cs:=cs)).h.cons⟩
section
variable {cs:St} {K:Value→SP} {A:Chunk} {a a2:Option Addr} {n c n2 c2:Nat} {R:List RoV} {ps:List PrM}
theorem c107t {su:Setup} (r:PrsR cs a n c ps) (v:Vie 73 6 a2 n2 c2 encRo R A) (hR:∀y∈R,y.Ok A) (q:In cs A) (hf:∀p∈ps,p.Fit) (hn:n2≤1000000000) (hs:roSum R≤1000000000000) (g:good su=true) (gn:n≤64)
  (hl:(playV su ps (R.map RoV.m)).length<999999999990) (h:∀(oa:Option Addr) (on oc:Nat) (och:Chunk),Row 101 12 oa on oc encEv (playV su ps (R.map RoV.m)) och→K (.tuple ⟨[.slice oa on oc,.int .i64 0]⟩) (och::cs)):
  fn 107 [.agg ⟨suC su⟩,.slice a n c,.slice a2 n2 c2] K cs:=up0 (f107 (by
 have hR2:=v.h.len
 unfold s107
 refine go fun b1=>⟨hf,fun g2=>absurd g (by rw [g2];decide),fun _ g2=>absurd gn (by omega),fun _ _ bq xe hxe=>⟨fun c0=>absurd c0 (by decide),fun _=> ?_⟩⟩
 generalize hB:(bk b1 23 (suC su)::cs:St)=G at *
 have qG:In G A:=by rw [←hB];infer_instance
 refine lp (fun y:Nat×(Option Addr×Nat×Nat×Chunk)×En×List EvM=>[.slice y.2.1.1 y.2.1.2.1 y.2.1.2.2.1,.int .i64 y.1]) (fun y=>y.2.1.2.2.2::engC bq y.2.2.1::G)
  (fun y=>y.1≤n2∧Row 101 12 y.2.1.1 y.2.1.2.1 y.2.1.2.2.1 encEv y.2.2.2 y.2.1.2.2.2∧(((R.map RoV.m).drop y.1).foldl play1 (y.2.2.1.m,y.2.2.2)).2=playV su ps (R.map RoV.m)∧y.2.2.1.m.qle (roSum (R.take y.1))) (fun y=>n2-y.1)
  (0,(none,0,0,[]),xe,[]) rfl drp ⟨Nat.zero_le _,⟨Sl.nil⟩,?_,?_⟩ ?_
 ·simp only [List.drop_zero]
  unfold playV
  rw [←hxe]
 ·show xe.m.qle _
  rw [hxe]
  exact qle_new _ _ _
 rintro⟨i,⟨oa,on,oc,och⟩,x,out⟩ ⟨i1,i2,i3,i5⟩
 dsimp only at *
 have hlen:=i2.len
 have i2:=i2
 refine go ?_
 simp only [decide_eq_true_eq,decide_eq_false_iff_not,Int.toNat_natCast]
 refine⟨fun c0=>⟨by omega,fun y hy b3=> ?_⟩,fun c0=> ?_⟩
 ·have hil:=lt_of_get hy
  have hyo:=hR y (List.mem_of_getElem? hy)
  have hst:=roSum_take hy
  have hsl:=roSum_le R (i+1)
  have ed:(R.map RoV.m).drop i=y.m::(R.map RoV.m).drop (i+1):=by
   rw [List.drop_eq_getElem_cons (by rw [List.length_map];exact hil)]
   rw [List.getElem?_eq_getElem hil]at hy
   rw [List.getElem_map,Option.some.inj hy]
  rw [ed,List.foldl_cons]at i3
  have hm:=play_mono ((R.map RoV.m).drop (i+1)) (play1 (x.m,out) y.m)
  rw [i3]at hm
  have hm2:(play1 (x.m,out) y.m).2.length=out.length+(x.m.round y.m).out.length:=List.length_append
  have v1:=hyo.v1
  have v2:=hyo.v2
  have v3:=hyo.v3
  refine(c28 (A:=A) (l1:=y.l1) (l2:=y.l2) (l3:=y.l3)).h ⟨⟨hyo.b1,hyo.b2,by show(x.m.round y.m).out.length<_;omega,_,i5,by omega⟩,fun x' he'=> ?_⟩
  have he2:x'.m=x.m.round y.m:=he'
  have hxl:=x'.orow.len
  rw [he2]at hxl
  refine go ⟨⟨by omega,by omega⟩,fun a' c' ch' r'=>⟨(i+1,(a',_,c',ch'),x',out++x'.m.out),by rw [w64_succ (by omega)],drp,⟨by simp only;omega,r',?_,?_⟩,by simp only;omega⟩⟩
  ·simp only
   rw [he2];exact i3
  ·simp only
   rw [hst,he2]
   exact qle_round i5 _
 ·have e:i=n2:=by omega
  subst e
  rw [hR2,List.drop_eq_nil_of_le (by simp),List.foldl_nil]at i3
  have i3:out=playV su ps (R.map RoV.m):=i3
  subst hB
  rw [←i3]at h
  exact fin (h _ _ _ _ i2)))
theorem c36t {su:Setup} (r:PrsR cs a n c ps) (v:Vie 73 6 a2 n2 c2 encRo R A) (hR:∀y∈R,y.Ok A) (q:In cs A) (hf:∀p∈ps,p.Fit) (hn:n2≤1000000000) (hs:roSum R≤1000000000000) (g:good su=true) (gn:n≤64)
  (hl:(playV su ps (R.map RoV.m)).length<999999999990) (h:∀(oa:Option Addr) (on oc:Nat) (och:Chunk),Row 101 12 oa on oc encEv (playV su ps (R.map RoV.m)) och→K (.tuple ⟨[.slice oa on oc,.int .i64 0]⟩) (och::cs)):
  fn 36 [.agg ⟨suC su⟩,.slice a n c,.slice a2 n2 c2] K cs:=up0 (f36 (by
 unfold s36
 refine go fun b1=>c107t (A:=A) (R:=R) inferInstance v hR inferInstance hf hn hs g gn hl fun oa on oc och r'=> ?_
 exact go (fin (h _ _ _ _ r'))))
instance c37:Go1 (fn 37 [] K cs) (K (.agg ⟨suC askS⟩) cs):=⟨fun h=>up0 (f37 (by
 unfold s37
 exact go fun b1=>fin h))⟩
theorem c39t {L:List EvM} (r:Rw 101 12 cs a n c encEv L) (hn:n≤4000000000000) (h:∀q M,Mp.l M=(endsV L).1→K (.tuple ⟨[.map (some q),.bool (endsV L).2]⟩) (mpC mvI q M::cs)):fn 39 [.slice a n c] K cs:=up0 (f39 (by
 have hl:=r.h.len
 unfold s39
 refine go fun q M0 hM0=> ?_
 refine lp (fun y:Nat×Bool×Mp mvI=>[.bool y.2.1,.int .i64 y.1]) (fun y=>mpC mvI q y.2.2::cs) (fun y=>y.1≤n∧(L.drop y.1).foldl open1 (y.2.2.l,y.2.1)=L.foldl open1 ([],false)) (fun y=>n-y.1) (0,false,M0) rfl drp ⟨Nat.zero_le _,by rw [List.drop_zero,hM0]⟩ ?_
 rintro⟨i,s,M⟩ ⟨i1,i2⟩
 dsimp only at *
 refine go ?_
 simp only [decide_eq_true_eq,decide_eq_false_iff_not,Int.toNat_natCast,beq_iff_eq,beq_eq_false_iff_ne]
 have drp1:∀{y:EvM},L[i]? =some y→L.drop i=y::L.drop (i+1):=fun{y} hy=>by
  have hil:=lt_of_get hy
  rw [List.drop_eq_getElem_cons hil]
  rw [List.getElem?_eq_getElem hil]at hy
  rw [Option.some.inj hy]
 refine⟨fun c0=>⟨by omega,fun y hy b2=> ?_⟩,fun c0=> ?_⟩
 ·rw [drp1 hy,List.foldl_cons]at i2
  rw [w64_succ (by omega)]
  unfold open1 at i2
  dsimp only at i2
  refine⟨fun k2=>⟨fun k3 M' hM'=>⟨(i+1,s,M'),rfl,drp,⟨by simp only;omega,?_⟩,by simp only;omega⟩,fun k3=>⟨(i+1,s,M),rfl,drp,⟨by simp only;omega,?_⟩,by simp only;omega⟩⟩,
   fun k2=>⟨fun k9=>⟨(i+1,true,M),rfl,drp,⟨by simp only;omega,?_⟩,by simp only;omega⟩,fun k9=>⟨(i+1,s,M),rfl,drp,⟨by simp only;omega,?_⟩,by simp only;omega⟩⟩⟩
  ·rw [if_pos k2,if_neg (by simpa using k3)]at i2
   simp only;rw [hM'];exact i2
  ·rw [if_pos k2,if_pos (by simpa using k3)]at i2;exact i2
  ·rw [if_neg k2,if_pos k9]at i2;exact i2
  ·rw [if_neg k2,if_neg k9]at i2;exact i2
 ·have e:i=n:=by omega
  subst e
  rw [hl,List.drop_length,List.foldl_nil]at i2
  have e1:(L.foldl open1 ([],false)).1=M.l:=by rw [←i2]
  have e2:(endsV L).2=s:=by unfold endsV;rw [←i2]
  have e3:(endsV L).1=L.foldl end1 M.l:=by unfold endsV;rw [e1]
  rw [e2,e3]at h
  clear i1 c0
  refine lp (fun y:Nat×Mp mvI=>[.int .i64 y.1]) (fun y=>mpC mvI q y.2::cs) (fun y=>y.1≤i∧(L.drop y.1).foldl end1 y.2.l=L.foldl end1 M.l) (fun y=>i-y.1) (0,M) rfl drp ⟨Nat.zero_le _,by rw [List.drop_zero]⟩ ?_
  rintro⟨j,N⟩ ⟨j1,j2⟩
  dsimp only at *
  refine go ?_
  simp only [decide_eq_true_eq,decide_eq_false_iff_not,Int.toNat_natCast,beq_iff_eq,beq_eq_false_iff_ne]
  refine⟨fun c0=>⟨by omega,fun y hy b2=> ?_⟩,fun c0=> ?_⟩
  ·have hil:=lt_of_get hy
   have ed:L.drop j=y::L.drop (j+1):=by
    rw [List.drop_eq_getElem_cons hil]
    rw [List.getElem?_eq_getElem hil]at hy
    rw [Option.some.inj hy]
   rw [ed,List.foldl_cons]at j2
   rw [w64_succ (by omega)]
   unfold end1 at j2
   refine⟨fun k2=>⟨fun k8 M' hM'=>⟨(j+1,M'),rfl,drp,⟨by simp only;omega,?_⟩,by simp only;omega⟩,fun k8=>⟨(j+1,N),rfl,drp,⟨by simp only;omega,?_⟩,by simp only;omega⟩⟩,fun k2=>⟨(j+1,N),rfl,drp,⟨by simp only;omega,?_⟩,by simp only;omega⟩⟩
   ·rw [if_pos k2,if_pos k8]at j2
    simp only;rw [hM'];exact j2
   ·rw [if_pos k2,if_neg k8]at j2;exact j2
   ·rw [if_neg (by simp [k2])]at j2;exact j2
  ·have e:j=i:=by omega
   subst e
   rw [hl,List.drop_length,List.foldl_nil]at j2
   exact fin (h q N j2)))
theorem c38t (h:∀b1 b2,PrR [bk b2 97 [.int .i64 1,.string (bs [104,105]),.int .i64 0,.int .i64 0,.slice none 0 0,.int .i64 0,.int .i64 0,.int .i64 2,.string (bs []),.int .i64 9,.int .i64 0,.slice (some (ad b1 0)) 1 1,.int .i64 (-1),.int .i64 (-1)],bk b1 146 [.string (bs [111,107]),.int .i64 2]] (prCells askP (some (ad b2 0)) 2 2) askP→
   K (.agg ⟨prCells askP (some (ad b2 0)) 2 2⟩) (bk b2 97 [.int .i64 1,.string (bs [104,105]),.int .i64 0,.int .i64 0,.slice none 0 0,.int .i64 0,.int .i64 0,.int .i64 2,.string (bs []),.int .i64 9,.int .i64 0,.slice (some (ad b1 0)) 1 1,.int .i64 (-1),.int .i64 (-1)]::bk b1 146 [.string (bs [111,107]),.int .i64 2]::cs)):fn 38 [] K cs:=up0 (f38 (by
 unfold s38
 refine go fun b0=>⟨by decide,fun b1=>⟨by decide,fun b2=> ?_⟩⟩
 have hh:=h b1 b2 ⟨_,_,_,[(⟨1,⟨⟨[104,105]⟩⟩,0,0,[],0,0⟩,none,0,0),(⟨2,.empty,9,0,[⟨⟨⟨[111,107]⟩⟩,2⟩],-1,-1⟩,some (ad b1 0),1,1)],rfl,⟨rfl,Nat.le_refl _,fun _=>⟨b2,0,97,_,rfl,⟨(0,0),by simp [bk];rfl⟩,fun j u hu=>by rw [Nat.zero_add];exact hu⟩⟩,rfl,fun x hx=>by
  simp only [List.mem_cons,List.not_mem_nil,or_false]at hx
  rcases hx with rfl | rfl
  ·exact rds_nil
  ·exact⟨rfl,Nat.le_refl _,fun _=>⟨b1,0,146,[.string (bs [111,107]),.int .i64 2],rfl,⟨(0,0),by simp [bk]⟩,fun j u hu=>by rw [Nat.zero_add];exact hu⟩⟩⟩
 exact fin hh))
theorem askP_fit:PrM.Fit askP:=by
 refine⟨by decide,by decide,fun o ho=> ?_⟩
 simp only [askP,List.mem_cons,List.not_mem_nil,or_false]at ho
 rcases ho with rfl | rfl
 ·exact⟨by decide,by decide,fun m hm=>nomatch hm⟩
 ·refine⟨by decide,by decide,fun m hm=> ?_⟩
  simp only [List.mem_cons,List.not_mem_nil,or_false]at hm
  subst hm;decide
theorem rd_in {α:Type} {sz:Nat} {e:Enc α sz} {l:List α} {A:Chunk} {b T n:Nat} (hn:n=l.length) (h:(b,Obj.cells ⟨l.flatMap e.f⟩ T (0,0))∈A):RdS [A] e (some (ad b 0)) n n l:=
 ⟨hn,Nat.le_refl _,fun _=>⟨b,0,T,_,rfl,⟨(0,0),by simpa using h⟩,fun j u hu=>by rw [Nat.zero_add];exact hu⟩⟩
theorem c10t (h:K (.bool true) cs):fn 10 [] K cs:=up0 (f10 (by
 unfold s10
 refine go ?_
 refine c38t fun b1 b2 rp=> ?_
 refine go ⟨by decide,fun b3=>⟨by decide,fun b4=>⟨by decide,fun b5=>⟨by decide,fun b6=>⟨by decide,fun b7=> ?_⟩⟩⟩⟩⟩
 let r1:RoV:=⟨1,some (ad b4 0),1,1,none,0,0,none,0,0,0,false,[0],[],[]⟩
 let r2:RoV:=⟨1,none,0,0,some (ad b5 0),1,1,some (ad b6 0),1,1,0,false,[],[⟨0,⟨⟨[111,107]⟩⟩,false⟩],[⟨0,true,true,2⟩]⟩
 let r3:RoV:=⟨1,none,0,0,none,0,0,none,0,0,0,false,[],[],[]⟩
 let A:Chunk:=bk b7 73 ([r1,r2,r3,r3].flatMap encRo.f)++(bk b6 87 [.int .i64 0,.bool true,.bool true,.int .i64 2]++(bk b5 85 [.int .i64 0,.string (bs [111,107]),.bool false]++bk b4 3 [.int .i64 0]))
 let B:Chunk:=bk b2 97 [.int .i64 1,.string (bs [104,105]),.int .i64 0,.int .i64 0,.slice none 0 0,.int .i64 0,.int .i64 0,.int .i64 2,.string (bs []),.int .i64 9,.int .i64 0,.slice (some (ad b1 0)) 1 1,.int .i64 (-1),.int .i64 (-1)]++bk b1 146 [.string (bs [111,107]),.int .i64 2]
 refine fn_imp (cs':=A::bk b3 45 (prCells askP (some (ad b2 0)) 2 2)::B::cs) (Imp.of_sub (l:=[]) (by simp [A,B,r1,r2,r3])) ?_
 have ra:PrsR (A::bk b3 45 (prCells askP (some (ad b2 0)) 2 2)::B::cs) (some (ad b3 0)) 1 1 [askP]:=⟨[(askP,some (ad b2 0),2,2)],⟨rfl,Nat.le_refl _,fun _=>⟨b3,0,45,prCells askP (some (ad b2 0)) 2 2,rfl,⟨(0,0),by simp [bk]⟩,fun j u hu=>by rw [Nat.zero_add];exact hu⟩⟩,rfl,fun x hx=>by
  simp only [List.mem_cons,List.not_mem_nil,or_false]at hx
  subst hx
  exact rp.sub (fun y hy=>by
   simp only [List.flatten_cons,List.flatten_nil,List.append_nil,List.mem_append]at hy ⊢
   right;right;left
   simp only [B,List.mem_append]
   exact hy)⟩
 have vA:Vie 73 6 (some (ad b7 0)) 4 4 encRo [r1,r2,r3,r3] A:=⟨rd_in (T:=73) rfl (by simp [A,bk])⟩
 have mA4:(b4,Obj.cells ⟨[.int .i64 0]⟩ 3 (0,0))∈A:=List.mem_append_right _ (List.mem_append_right _ (List.mem_append_right _ (List.mem_singleton.2 rfl)))
 have mA5:(b5,Obj.cells ⟨[.int .i64 0,.string (bs [111,107]),.bool false]⟩ 85 (0,0))∈A:=List.mem_append_right _ (List.mem_append_right _ (List.mem_append_left _ (List.mem_singleton.2 rfl)))
 have mA6:(b6,Obj.cells ⟨[.int .i64 0,.bool true,.bool true,.int .i64 2]⟩ 87 (0,0))∈A:=List.mem_append_right _ (List.mem_append_left _ (List.mem_singleton.2 rfl))
 have nv1:(1:Int)≤never∧(0:Int)≤never:=by decide
 have o1:RoV.Ok A r1:=⟨⟨rd_in (T:=3) rfl mA4⟩,⟨rds_nil⟩,⟨rds_nil⟩,nv1,by show(1:Nat)≤1000000000∧(0:Nat)≤1000000000∧(0:Nat)≤1000000000;omega⟩
 have o2:RoV.Ok A r2:=⟨⟨rds_nil⟩,⟨rd_in (T:=85) rfl mA5⟩,⟨rd_in (T:=87) rfl mA6⟩,nv1,by show(0:Nat)≤1000000000∧(1:Nat)≤1000000000∧(1:Nat)≤1000000000;omega⟩
 have o3:RoV.Ok A r3:=⟨⟨rds_nil⟩,⟨rds_nil⟩,⟨rds_nil⟩,nv1,by show(0:Nat)≤1000000000∧(0:Nat)≤1000000000∧(0:Nat)≤1000000000;omega⟩
 have hR:[r1,r2,r3,r3].map RoV.m=askR:=rfl
 refine c36t (A:=A) (R:=[r1,r2,r3,r3]) ra vA (fun y hy=> ?_) inferInstance (fun p hp=> ?_) (by decide) ?_ (by decide) (by decide) ?_ fun oa on oc och ro=> ?_
 ·simp only [List.mem_cons,List.not_mem_nil,or_false]at hy
  rcases hy with rfl | rfl | rfl | rfl
  ·exact o1
  ·exact o2
  ·exact o3
  ·exact o3
 ·simp only [List.mem_cons,List.not_mem_nil,or_false]at hp
  subst hp;exact askP_fit
 ·have e9:roSum [r1,r2,r3,r3]=2:=rfl
  rw [e9];decide
 ·rw [hR];have:=ask_len;omega
 ·rw [hR]at ro
  have hol:=ro.len
  have:=ask_len
  refine go ?_
  refine c39t (L:=playV askS [askP] askR) inferInstance (by omega) fun q M hM=> ?_
  obtain⟨e1,e2⟩:=ask_ends
  rw [e1]at hM
  rw [e2]
  refine go ?_
  rw [hM]
  refine⟨fun _=>⟨fun _=>⟨fun _=>fin h,fun c0=>absurd c0 (by decide)⟩,fun c0=>absurd c0 (by decide)⟩,fun c0=>absurd c0 (by decide)⟩))
end
end Go.Proofs.YtbjlfobjngogkaaGreatDoor
namespace Go.Proofs.YtbjlfobjngogkaaGreatDoor
def opC (s:Setup) (o:OpM):Nat:=if o.kind=1 then cdiv o.text.size s.out.toNat+1 else if o.kind=2 then 2 else 1
def tailC (s:Setup) (ops:List OpM) (a:Nat):Nat:=((ops.drop a).map (opC s)).sum+1
def curC (d:Dia):Nat:=if d.at_.toNat<d.p.ops.length then(if d.op.kind=1 then cdiv d.out.rest.toNat d.s.out.toNat+1 else if d.op.kind=2 then 1+(if 0<d.win.fresh then 1 else 0)else 1)else 0
def Dia.pot (d:Dia):Nat:=curC d+tailC d.s d.p.ops (d.at_.toNat+1)+(d.p.jumps-d.jumps).toNat*tailC d.s d.p.ops 0+d.inq.length
structure Dia.Pr (d:Dia):Prop where
 o:d.out.out=d.s.out
 w:d.win.seen≤d.win.b.length
theorem tail_cons {s:Setup} {ops:List OpM} {a:Nat} (h:a<ops.length):tailC s ops a=opC s ops[a]+tailC s ops (a+1):=by
 unfold tailC
 rw [List.drop_eq_getElem_cons h,List.map_cons,List.sum_cons]
 omega
theorem tail_end {s:Setup} {ops:List OpM} {a:Nat} (h:ops.length≤a):tailC s ops a=1:=by
 unfold tailC
 rw [List.drop_eq_nil_of_le h];rfl
theorem tail_le (s:Setup) (ops:List OpM) (a:Nat):tailC s ops a≤tailC s ops 0:=by
 unfold tailC
 rw [List.drop_zero]
 have:(ops.map (opC s)).sum=((ops.take a).map (opC s)).sum+((ops.drop a).map (opC s)).sum:=by
  conv=>lhs;rw [←List.take_append_drop a ops]
  rw [List.map_append,List.sum_append]
 omega
theorem opAt_lt {ops:List OpM} {i:Int} (h:i.toNat<ops.length):opAt ops i=ops[i.toNat]:=by
 unfold opAt;rw [List.getD_eq_getElem?_getD,List.getElem?_eq_getElem h];rfl
theorem come_pot {d:Dia} {to:Int} (h0:0≤to) (h1:to≤d.p.ops.length):(d.come to).pot≤tailC d.s d.p.ops to.toNat+(d.p.jumps-d.jumps).toNat*tailC d.s d.p.ops 0+d.inq.length:=by
 have hl:(d.come to).s=d.s∧(d.come to).p=d.p∧(d.come to).jumps=d.jumps∧(d.come to).inq=d.inq∧(d.come to).at_=to:=by
  unfold Dia.come
  split
  ·exact⟨rfl,rfl,rfl,rfl,rfl⟩
  ·split
   ·exact⟨rfl,rfl,rfl,rfl,rfl⟩
   ·split <;>exact⟨rfl,rfl,rfl,rfl,rfl⟩
 obtain⟨e1,e2,e3,e4,e5⟩:=hl
 unfold Dia.pot
 rw [e1,e2,e3,e4,e5]
 have key:curC (d.come to)+tailC d.s d.p.ops (to.toNat+1)≤tailC d.s d.p.ops to.toNat:=by
  unfold curC Dia.op
  rw [e1,e2,e5]
  by_cases c:to.toNat<d.p.ops.length
  ·rw [if_pos c,tail_cons c,←opAt_lt c]
   unfold opC
   by_cases k1:(opAt d.p.ops to).kind=1
   ·rw [if_pos k1,if_pos k1]
    have:(d.come to).out.rest=(opAt d.p.ops to).text.size:=by
     unfold Dia.come;rw [if_pos k1];simp [Wtr.begin,Wtr.rest]
    rw [this,Int.toNat_natCast]
    exact Nat.le_refl _
   ·rw [if_neg k1,if_neg k1]
    split
    ·split <;>omega
    ·omega
  ·rw [if_neg c,tail_end (a:=to.toNat) (by omega),tail_end (by omega)]
   exact Nat.le_refl _
 omega
theorem stop_status (d:Dia) (st:Int):(d.stop st).status=st:=rfl
theorem jump_pot {d:Dia} {x:StepM} {to:Int} (h1:to<0∨to≤d.p.ops.length) (h:(d.jump x to).2.status=0):(d.jump x to).2.pot≤(d.p.jumps-d.jumps).toNat*tailC d.s d.p.ops 0+d.inq.length:=by
 unfold Dia.jump at h ⊢
 split at h
 ·rw [stop_status]at h;omega
 ·rename_i c1
  rw [if_neg c1]
  split at h
  ·rw [stop_status]at h;omega
  ·rename_i c2
   rw [if_neg c2]
   have hc:=come_pot (d:={d with jumps:=d.jumps+1}) (to:=to) (by omega) (by simp only;omega)
   dsimp only at hc
   refine Nat.le_trans hc ?_
   have e:(d.p.jumps-d.jumps).toNat=(d.p.jumps-(d.jumps+1)).toNat+1:=by omega
   rw [e,Nat.add_mul,Nat.one_mul]
   have:=tail_le d.s d.p.ops to.toNat
   omega
theorem hFeed_end {win:Int} {f:Nat} (ih:∀(s:Lk) (rd:Nat),s.seen≤s.b.length→s.b.length-s.seen+s.r.length<f→(hLook win f s rd).2.seen≤(hLook win f s rd).2.b.length∧(hLook win f s rd).2.r.length≤s.r.length∧((hLook win f s rd).1.mat=false→(hLook win f s rd).1.full=false→(hLook win f s rd).2.seen=(hLook win f s rd).2.b.length∧(hLook win f s rd).2.r=[]))
  (m:Pats) (seen:Nat) (b r:List UInt8) (rd:Nat) (h1:seen+1≤b.length) (h2:b.length-(seen+1)+r.length<f):
  (hFeed (hLook win f) m seen b r rd).2.seen≤(hFeed (hLook win f) m seen b r rd).2.b.length∧(hFeed (hLook win f) m seen b r rd).2.r.length≤r.length∧((hFeed (hLook win f) m seen b r rd).1.mat=false→(hFeed (hLook win f) m seen b r rd).1.full=false→(hFeed (hLook win f) m seen b r rd).2.seen=(hFeed (hLook win f) m seen b r rd).2.b.length∧(hFeed (hLook win f) m seen b r rd).2.r=[]):=by
 unfold hFeed
 split
 ·exact⟨Nat.zero_le _,Nat.le_refl _,fun h=>by cases h⟩
 ·exact ih ⟨b,seen+1,_,r⟩ rd h1 h2
theorem hLook_end (win:Int):∀(f:Nat) (s:Lk) (rd:Nat),s.seen≤s.b.length→s.b.length-s.seen+s.r.length<f→(hLook win f s rd).2.seen≤(hLook win f s rd).2.b.length∧(hLook win f s rd).2.r.length≤s.r.length∧((hLook win f s rd).1.mat=false→(hLook win f s rd).1.full=false→(hLook win f s rd).2.seen=(hLook win f s rd).2.b.length∧(hLook win f s rd).2.r=[])
 | 0,_,_,_,h=>by omega
 | f+1,s,rd,h1,h2=>by
  rw [hLook]
  split
  ·rename_i c
   cases hr:s.r with
   | nil=>exact⟨h1,by rw [hr];exact Nat.le_refl _,fun _ _=>⟨c,hr⟩⟩
   | cons x r=>
    dsimp only
    rw [hr,List.length_cons]at h2
    split
    ·exact⟨h1,by rw [hr];exact Nat.le_refl _,fun _ h=>by cases h⟩
    ·have:=hFeed_end (win:=win) (f:=f) (hLook_end win f) s.m s.seen (s.b++[x]) r (rd+1) (by simp;omega) (by simp;omega)
     refine⟨this.1,?_,this.2.2⟩
     have h3:=this.2.1
     rw [List.length_cons];omega
  ·exact hFeed_end (win:=win) (f:=f) (hLook_end win f) s.m s.seen s.b s.r rd (by omega) (by omega)
theorem seen_end {d:Dia} (h:d.Pr) (m:Pats):(d.seen m).2.seen≤(d.seen m).2.b.length∧(d.seen m).2.r.length≤d.inq.length∧((d.seen m).1.mat=false→(d.seen m).1.full=false→(d.seen m).2.seen=(d.seen m).2.b.length∧(d.seen m).2.r=[]):=
 hLook_end d.s.win _ ⟨d.win.b,d.win.seen,m,d.inq⟩ 0 h.w (by simp only;omega)
theorem come_pr {d:Dia} (h:d.Pr) (to:Int):(d.come to).Pr:=by
 unfold Dia.come
 split
 ·exact⟨h.o,h.w⟩
 ·split
  ·refine⟨h.o,?_⟩
   unfold Win.begin
   simp only
   split
   ·exact h.w
   ·exact Nat.zero_le _
  ·split <;>exact⟨h.o,h.w⟩
theorem jump_pr {d:Dia} (h:d.Pr) {x:StepM} {to:Int} (hs:(d.jump x to).2.status=0):(d.jump x to).2.Pr:=by
 unfold Dia.jump at hs ⊢
 split at hs
 ·rw [stop_status]at hs;omega
 ·rename_i c1
  rw [if_neg c1]
  split at hs
  ·rw [stop_status]at hs;omega
  ·rename_i c2
   rw [if_neg c2]
   exact come_pr (d:={d with jumps:=d.jumps+1}) ⟨h.o,h.w⟩ to
theorem pot_one (d:Dia):1+(d.p.jumps-d.jumps).toNat*tailC d.s d.p.ops 0+d.inq.length≤d.pot:=by
 unfold Dia.pot
 have:1≤tailC d.s d.p.ops (d.at_.toNat+1):=by unfold tailC;omega
 omega
theorem does_pot {d:Dia} (h:d.Ok) (hp:d.Pr) (h0:d.status=0) (hr:d.readyAt d.now=true) {x:StepM} (hs:(d.does x).2.status=0):(d.does x).2.pot+1≤d.pot∧(d.does x).2.Pr:=by
 have hg:=good_facts h.sg
 have p1:=pot_one d
 unfold Dia.does at hs ⊢
 split at hs
 ·rename_i ho
  rw [stop_status]at hs
  have:=over_status ho;omega
 rename_i ho
 rw [if_neg ho]
 unfold Dia.readyAt at hr
 rw [if_neg ho]at hr
 split at hs
 ·rename_i k
  rw [if_pos k]
  rw [if_pos k]at hr
  have hat:=(op_send h.pg k).2
  have hat:d.at_.toNat<d.p.ops.length:=hat
  have hcur:curC d=cdiv d.out.rest.toNat d.s.out.toNat+1:=by unfold curC;rw [if_pos hat,if_pos k]
  unfold Dia.send at hs ⊢
  split
  ·rename_i hrest
   refine⟨?_,⟨hp.o,hp.w⟩⟩
   have hl:d.out.laid=d.out.sent:=by
    have:d.out.left=0:=by simpa using hr
    unfold Wtr.left at this;omega
   have hout:=hp.o
   have e1:d.out.load.rest=d.out.rest-min d.out.rest d.s.out:=by
    unfold Wtr.load Wtr.loads Wtr.rest
    simp only
    rw [if_neg (by omega),hout]
    omega
   have e2:curC {d with out:=d.out.load}=cdiv (d.out.rest-d.s.out).toNat d.s.out.toNat+1:=by
    unfold curC Dia.op
    have k':(opAt d.p.ops d.at_).kind=1:=k
    simp only
    rw [if_pos hat,if_pos k',e1]
    congr 2;omega
   have e3:=cdiv_succ (k:=d.out.rest) (d:=d.s.out) hrest (by omega)
   unfold Dia.pot
   rw [e2,hcur,e3]
   simp only
   omega
  ·rename_i hrest
   have a0:=h.a0
   have hc:=come_pot (d:=d) (to:=d.at_+1) (by omega) (by omega)
   refine⟨?_,come_pr hp _⟩
   refine Nat.le_trans (Nat.add_le_add_right hc 1) ?_
   have e:(d.at_+1).toNat=d.at_.toNat+1:=by omega
   rw [e]
   unfold Dia.pot
   rw [hcur]
   omega
 ·rename_i k1
  rw [if_neg k1]
  rw [if_neg k1]at hr
  split at hs
  ·rename_i k
   rw [if_pos k]
   rw [if_pos k]at hr
   have hat:d.at_.toNat<d.p.ops.length:=(op_expect h.pg k).2
   have hcur:curC d=1+(if 0<d.win.fresh then 1 else 0):=by unfold curC;rw [if_pos hat,if_neg k1,if_pos k]
   obtain⟨m,hm,hml⟩:=h.ar h0 k
   unfold Dia.look at hs ⊢
   rw [hm]at hs ⊢
   dsimp only at hs ⊢
   obtain⟨w1,w2,w3⟩:=seen_end hp m
   obtain⟨e1,e2,e3,e4,e5⟩:=expE_facts (op_expect h.pg k).1
   have jp:∀{x:StepM} {to:Int},(to<0∨to≤d.p.ops.length)→(Dia.jump {d with win:=⟨(d.seen m).2.b,(d.seen m).2.seen,some (d.seen m).2.m⟩,inq:=(d.seen m).2.r} x to).2.status=0→
     (Dia.jump {d with win:=⟨(d.seen m).2.b,(d.seen m).2.seen,some (d.seen m).2.m⟩,inq:=(d.seen m).2.r} x to).2.pot+1≤d.pot∧(Dia.jump {d with win:=⟨(d.seen m).2.b,(d.seen m).2.seen,some (d.seen m).2.m⟩,inq:=(d.seen m).2.r} x to).2.Pr:=by
    intro x to ht hst
    have:=jump_pot (d:={d with win:=⟨(d.seen m).2.b,(d.seen m).2.seen,some (d.seen m).2.m⟩,inq:=(d.seen m).2.r}) ht hst
    dsimp only at this
    exact⟨by omega,jump_pr (d:={d with win:=⟨(d.seen m).2.b,(d.seen m).2.seen,some (d.seen m).2.m⟩,inq:=(d.seen m).2.r}) ⟨hp.o,w1⟩ hst⟩
   split at hs
   ·rename_i hmat
    rw [if_pos hmat]
    refine jp (.inr ?_) hs
    have harm:=look_arm h h0 k hm hmat
    have hc:=comes_iff.1 (arm_comes (e3 _ (List.getElem_mem harm)))
    have:(d.op.arms.getD (d.seen m).1.arm ⟨.empty,0⟩)=d.op.arms[(d.seen m).1.arm]:=by rw [List.getD_eq_getElem?_getD,List.getElem?_eq_getElem harm];rfl
    rw [this]
    exact hc.2
   ·rename_i hmat
    rw [if_neg hmat]
    split at hs
    ·rw [stop_status]at hs;omega
    ·rename_i hfull
     rw [if_neg hfull]
     split at hs
     ·rename_i heof
      rw [if_pos heof]
      refine jp ?_ hs
      rcases e5 with e | e
      ·left;show(opAt d.p.ops d.at_).onE<0;omega
      ·right;exact(comes_iff.1 e).2
     ·rename_i heof
      rw [if_neg heof]
      split at hs
      ·rename_i hwok
       rw [if_pos hwok]
       refine jp ?_ hs
       rcases e4 with e | e
       ·left;show(opAt d.p.ops d.at_).onT<0;omega
       ·right;exact(comes_iff.1 e).2
      ·rename_i hwok
       rw [if_neg hwok]
       refine⟨?_,⟨hp.o,w1⟩⟩
       obtain⟨w4,w5⟩:=w3 (by simpa using hmat) (by simpa using hfull)
       have hr2:0<d.win.fresh∨0<d.inq.length:=by
        simp only [Bool.or_eq_true,decide_eq_true_eq]at hr
        rcases hr with hr | hr | hr | hr
        ·exact .inl hr
        ·exact .inr hr
        ·exact absurd hr heof
        ·exact absurd hr hwok
       have e9:curC {d with win:=⟨(d.seen m).2.b,(d.seen m).2.seen,some (d.seen m).2.m⟩,inq:=(d.seen m).2.r}=1:=by
        unfold curC Dia.op Win.fresh
        have k':(opAt d.p.ops d.at_).kind=2:=k
        simp only
        rw [if_pos hat,if_neg (by omega),if_pos k',if_neg (by omega)]
       unfold Dia.pot
       rw [e9,hcur]
       simp only
       rw [w5]
       have:([]:List UInt8).length=0:=rfl
       rw [this]
       rcases hr2 with hr2 | hr2
       ·rw [if_pos hr2];omega
       ·split <;>omega
  ·rename_i k2
   rw [if_neg k2]
   split at hs
   ·rename_i k
    rw [if_pos k]
    have hj:(d.jump {x with what:=7} d.op.to).2.pot≤(d.p.jumps-d.jumps).toNat*tailC d.s d.p.ops 0+d.inq.length:=jump_pot (.inr (comes_iff.1 (op_goto h.pg k).1).2) hs
    exact⟨by omega,jump_pr hp hs⟩
   ·rename_i k3
    rw [if_neg k3]
    split at hs
    ·rename_i k
     rw [if_pos k]
     have hat:d.at_.toNat<d.p.ops.length:=(op_pause h.pg k).2
     have a0:=h.a0
     have hc:=come_pot (d:=d) (to:=d.at_+1) (by omega) (by omega)
     refine⟨?_,come_pr hp _⟩
     refine Nat.le_trans (Nat.add_le_add_right hc 1) ?_
     have e:(d.at_+1).toNat=d.at_.toNat+1:=by omega
     have hcur:curC d=1:=by unfold curC;rw [if_pos hat,if_neg k1,if_neg k2]
     rw [e]
     unfold Dia.pot
     rw [hcur]
     omega
    ·split at hs
     ·rw [stop_status]at hs;omega
     ·rw [stop_status]at hs;omega
theorem step_pot {d d':Dia} {now:Int} {y:StepM} (h:d.Ok) (hp:d.Pr) (hn:now≤never) (hs:d.step now=some (y,d')) (h1:d'.status=0):d'.pot+1≤d.pot∧d'.Pr:=by
 obtain⟨_,_,_,_,h5,h6⟩:=step_like hs
 have h0:=ready_runs h6
 rw [h5]at h1 ⊢
 have:=does_pot (d:=d.tick now) (tick_ok h hn) ⟨hp.o,hp.w⟩ h0 (by
  unfold Dia.ready at h6
  rw [Bool.and_eq_true]at h6
  have h7:=h6.2
  show Dia.readyAt (d.tick now) (max d.now now)=true
  rw [Int.max_comm]
  exact h7) h1
 exact this
theorem new_pot {s:Setup} {p:PrM} {now:Int} (hs:good s=true):(Dia.new s p now).pot≤2*stepsOf s p*(p.jumps.toNat+1)∧(Dia.new s p now).Pr:=by
 have hg:=good_facts hs
 refine⟨?_,?_⟩
 ·have hc:=come_pot (d:=⟨s,p,0,0,0,Due.begin (own now) p.dl,[],⟨[],0,none⟩,Wtr.new s.out,false,own now⟩) (to:=0) (Int.le_refl _) (Int.natCast_nonneg _)
  dsimp only at hc
  refine Nat.le_trans hc ?_
  have h1:tailC s p.ops 0≤2*stepsOf s p:=by
   unfold tailC stepsOf
   rw [List.drop_zero]
   have:∀l:List OpM,(l.map (opC s)).sum≤2*l.length+(l.map fun o=>cdiv o.text.size s.out.toNat).sum:=by
    intro l
    induction l with
    | nil=>simp
    | cons o l ih=>
     simp only [List.map_cons,List.sum_cons,List.length_cons]
     have:opC s o≤2+cdiv o.text.size s.out.toNat:=by unfold opC;split;omega;split <;>omega
     omega
   have:=this p.ops
   omega
  have e:(p.jumps-0).toNat=p.jumps.toNat:=by omega
  rw [e,Nat.mul_add,Nat.mul_one]
  have h2:p.jumps.toNat*tailC s p.ops 0≤p.jumps.toNat*(2*stepsOf s p):=Nat.mul_le_mul_left _ h1
  have e2:p.jumps.toNat*(2*stepsOf s p)=2*stepsOf s p*p.jumps.toNat:=Nat.mul_comm _ _
  have e3:(0:Int).toNat=0:=rfl
  rw [e3]
  simp only [List.length_nil]
  omega
 ·refine come_pr ⟨?_,Nat.le_refl _⟩ 0
  show min (max s.out 1) 4096=s.out
  omega
theorem put_pot (d:Dia) (b:List UInt8):(d.put b).pot≤d.pot+b.length:=by
 unfold Dia.put
 split
 ·have:(b.take d.fits).length≤b.length:=by rw [List.length_take];omega
  unfold Dia.pot curC Dia.op
  simp only [List.length_append]
  omega
 ·omega
theorem put_pr {d:Dia} (h:d.Pr) (b:List UInt8):(d.put b).Pr:=by unfold Dia.put;split;exact⟨h.o,h.w⟩;exact h
theorem ends_pot {d:Dia} (h:d.Pr):d.ends.pot=d.pot∧d.ends.Pr:=by unfold Dia.ends;split;exact⟨rfl,h.o,h.w⟩;exact⟨rfl,h⟩
theorem take_pot {d:Dia} (h:d.Pr) (n:Int):(d.take n).pot=d.pot∧(d.take n).Pr:=by
 unfold Dia.take
 split
 ·exact⟨rfl,h.o,h.w⟩
 ·exact⟨rfl,h⟩
theorem cut_pot {d:Dia} (h:d.Pr) (t:Int):(d.cut t).pot=d.pot∧(d.cut t).Pr:=by unfold Dia.cut;split;exact⟨rfl,h.o,h.w⟩;exact⟨rfl,h⟩
theorem add_id (f:LifeM) (x:EvM):(f.add x).id=f.id:=by unfold LifeM.add LifeM.push;repeat' (first | rfl | split)
theorem add_script (f:LifeM) (x:EvM):(f.add x).script=f.script:=by unfold LifeM.add LifeM.push;repeat' (first | rfl | split)
theorem add_ne {f:LifeM} {x:EvM} (h:x.id≠f.id):(f.add x).steps=f.steps∧(f.add x).read=f.read:=by
 unfold LifeM.add
 by_cases c:x.kind=7∧f.status=0
 ·rw [if_pos c];exact⟨rfl,rfl⟩
 ·rw [if_neg c,if_pos h];exact⟨rfl,rfl⟩
theorem add_other {f:LifeM} {x:EvM} (h4:x.kind≠4) (h8:x.kind≠8):(f.add x).steps=f.steps∧(f.add x).read=f.read:=by
 by_cases h:x.id≠f.id
 ·exact add_ne h
 ·unfold LifeM.add
  by_cases c:x.kind=7∧f.status=0
  ·rw [if_pos c];exact⟨rfl,rfl⟩
  ·rw [if_neg c,if_neg h,if_neg h4]
   by_cases c5:x.kind=5
   ·rw [if_pos c5];exact⟨rfl,rfl⟩
   ·rw [if_neg c5]
    by_cases c6:x.kind=6
    ·rw [if_pos c6];exact⟨rfl,rfl⟩
    ·rw [if_neg c6,if_neg h8];exact⟨rfl,rfl⟩
theorem add_read {f:LifeM} {x:EvM} (h:x.id=f.id) (h4:x.kind=4):(f.add x).steps=f.steps∧(f.add x).read=f.read++x.bytes:=by
 unfold LifeM.add LifeM.push
 rw [if_neg (by omega),if_neg (by simp [h]),if_pos h4]
 exact⟨rfl,rfl⟩
theorem add_step {f:LifeM} {x:EvM} (h:x.id=f.id) (h8:x.kind=8):(f.add x).steps=f.steps++[x.step]∧(f.add x).read=f.read:=by
 unfold LifeM.add LifeM.push
 rw [if_neg (by omega),if_neg (by simp [h]),if_neg (by omega),if_neg (by omega),if_neg (by omega),if_pos h8]
 exact⟨rfl,rfl⟩
theorem life_foldl_id:∀(l:List EvM) (f:LifeM),(l.foldl LifeM.add f).id=f.id
 | [],_=>rfl
 | x::l,f=>by rw [List.foldl_cons,life_foldl_id l];exact add_id f x
theorem lifeOf_id {l:List EvM} {id:Int} {f:LifeM} (h:lifeOf l id=some f):f.id=id:=by
 unfold lifeOf at h
 split at h
 ·cases h;rw [life_foldl_id];rfl
 ·cases h
theorem lifeOf_snoc (l:List EvM) (x:EvM) (id:Int):lifeOf (l++[x]) id=match lifeOf l id with
  | some f=>some (f.add x)
  | none=>if x.opens id then some {LifeM.new id with from_:=l.foldl from1 0,script:=x.n} else none:=by
 unfold lifeOf
 by_cases c:l.findIdx (EvM.opens id)<l.length
 ·have e:(l++[x]).findIdx (EvM.opens id)=l.findIdx (EvM.opens id):=by rw [List.findIdx_append,if_pos c]
  rw [e,if_pos c,if_pos (by rw [List.length_append];omega)]
  dsimp only
  rw [List.drop_append_of_le_length (by omega),List.take_append_of_le_length (by omega),List.drop_append_of_le_length (by omega),List.foldl_append]
  have:(l.drop (l.findIdx (EvM.opens id))++[x]).head? =(l.drop (l.findIdx (EvM.opens id))).head?:=by
   rw [List.drop_eq_getElem_cons c];rfl
  rw [this]
  rfl
 ·have hlen:l.findIdx (EvM.opens id)=l.length:=Nat.le_antisymm List.findIdx_le_length (by omega)
  have e:(l++[x]).findIdx (EvM.opens id)=[x].findIdx (EvM.opens id)+l.length:=by rw [List.findIdx_append,if_neg c]
  rw [e,if_neg c]
  dsimp only
  cases hx:x.opens id with
  | true=>
   have e1:[x].findIdx (EvM.opens id)=0:=by simp [List.findIdx_cons,hx]
   rw [e1,Nat.zero_add,if_pos (by simp),if_pos rfl]
   have e2:(l++[x]).drop (l.length+1)=[]:=List.drop_eq_nil_of_le (by simp)
   have e3:(l++[x]).take l.length=l:=List.take_left
   have e4:(l++[x]).drop l.length=[x]:=List.drop_left
   rw [e2,e3,e4]
   rfl
  | false=>
   have e1:[x].findIdx (EvM.opens id)=1:=by simp [List.findIdx_cons,hx]
   rw [e1,if_neg (by simp;omega),if_neg (by decide)]
def capC (s:Setup) (p:PrM):Nat:=2*stepsOf s p*(p.jumps.toNat+1)
inductive Pre:List EvM→Prop
 | nil:Pre []
 | snoc {L:List EvM} {x:EvM} (h:Pre L) (hx:x.kind=8∨x.kind=4→lifeOf L x.id≠none):Pre (L++[x])
structure PI (su:Setup) (ps:List PrM) (L:List EvM) (e:Eng):Prop where
 es:e.s=su
 ep:e.scripts=ps
 lf:∀id f,lifeOf L id=some f→id<e.slots.next∧(0≤f.script∧f.script<ps.length)∧goodP (ps.getD f.script.toNat PrM.zero)=true∧f.steps.length≤capC su (ps.getD f.script.toNat PrM.zero)+f.read.size
 st:∀k x,e.seat k=some x→x.d.status=0∧x.d.Pr∧∃f,lifeOf L x.id=some f∧x.d.p=ps.getD f.script.toNat PrM.zero∧f.steps.length+x.d.pot≤capC su x.d.p+f.read.size
 nle:e.slots.next≤4096
 nn:∀id,lifeOf L id≠none→0≤id
 pr:Pre L
section
variable {su:Setup} {ps:List PrM} {L:List EvM} {e e':Eng}
theorem PI.tell (h:PI su ps L e) {x:EvM} (h2:x.kind≠2) (h4:x.kind≠4) (h8:x.kind≠8):PI su ps (L++[x]) e:=by
 have hx:∀id,x.opens id=false:=fun id=>by unfold EvM.opens;exact decide_eq_false (by simp [h2])
 have hl:∀id f,lifeOf (L++[x]) id=some f→∃g,lifeOf L id=some g∧f.steps=g.steps∧f.read=g.read∧f.script=g.script:=by
  intro id f hf
  rw [lifeOf_snoc]at hf
  cases hg:lifeOf L id with
  | none=>rw [hg]at hf;dsimp only at hf;rw [hx,if_neg (by decide)]at hf;cases hf
  | some g=>
   rw [hg]at hf;cases hf
   exact⟨g,rfl,(add_other h4 h8).1,(add_other h4 h8).2,add_script g x⟩
 refine⟨h.es,h.ep,fun id f hf=> ?_,fun k y hk=> ?_,h.nle,fun id hid=> ?_,.snoc h.pr (fun hh=>absurd hh (by omega))⟩
 rotate_right
 ·cases hf:lifeOf (L++[x]) id with
  | none=>exact absurd hf hid
  | some f=>obtain⟨g,g1,_⟩:=hl id f hf;exact h.nn id (by rw [g1];simp)
 ·obtain⟨g,g1,g2,g3,g4⟩:=hl id f hf
  rw [g2,g3,g4];exact h.lf id g g1
 ·obtain⟨s1,s2,g,g1,g2,g3⟩:=h.st k y hk
  refine⟨s1,s2,g.add x,by rw [lifeOf_snoc,g1],by rw [add_script];exact g2,?_⟩
  rw [(add_other h4 h8).1,(add_other h4 h8).2];exact g3
theorem PI.same (h:PI su ps L e) (h1:e'.s=e.s) (h2:e'.scripts=e.scripts) (h3:e.slots.next≤e'.slots.next) (h4:∀k x,e'.seat k=some x→e.seat k=some x) (h5:e.slots.next≤4096→e'.slots.next≤4096:=by exact id):PI su ps L e':=
 ⟨h1.trans h.es,h2.trans h.ep,fun id f hf=>by obtain⟨a,b⟩:=h.lf id f hf;exact⟨by omega,b⟩,fun k x hk=>h.st k x (h4 k x hk),h5 h.nle,h.nn,h.pr⟩
theorem close_next (s:Slots) (id:Int):(s.close id).next=s.next:=by unfold Slots.close;split <;>rfl
theorem PI.seat (h:PI su ps L e) (ho:e.Ok) {k:Nat} {x y:Seat} (hk:e.seat k=some x) (hid:y.id=x.id) (hs:y.d.status=0) (hp:y.d.Pr) (hpp:y.d.p=x.d.p) (hpot:y.d.pot≤x.d.pot):PI su ps L (e.setSeat k (some y)):=by
 refine⟨h.es,h.ep,h.lf,fun i z hz=> ?_,h.nle,h.nn,h.pr⟩
 rw [setSeat_seat hk]at hz
 split at hz
 ·cases hz
  obtain⟨s1,s2,f,f1,f2,f3⟩:=h.st k x hk
  exact⟨hs,hp,f,by rw [hid];exact f1,hpp.trans f2,by rw [hpp];omega⟩
 ·exact h.st i z hz
theorem PI.seatEv (h:PI su ps L e) (ho:e.Ok) {k:Nat} {x y:Seat} {v:EvM} (hk:e.seat k=some x) (hid:y.id=x.id) (hs:y.d.status=0) (hp:y.d.Pr) (hpp:y.d.p=x.d.p) (hv:v.id=x.id)
  (hkind:(v.kind=4∧y.d.pot≤x.d.pot+v.bytes.size)∨(v.kind=8∧y.d.pot+1≤x.d.pot)):PI su ps (L++[v]) (e.setSeat k (some y)):=by
 have hx:∀id,v.opens id=false:=fun id=>by unfold EvM.opens;exact decide_eq_false (by omega)
 obtain⟨s1,s2,f,f1,f2,f3⟩:=h.st k x hk
 have fid:=lifeOf_id f1
 have hv2:v.id=f.id:=by rw [fid];exact hv
 have new:(f.add v).steps.length+y.d.pot≤capC su x.d.p+(f.add v).read.size:=by
  rcases hkind with ⟨k4,hb⟩ | ⟨k8,hb⟩
  ·rw [(add_read hv2 k4).1,(add_read hv2 k4).2,ByteArray.size_append];omega
  ·rw [(add_step hv2 k8).1,(add_step hv2 k8).2,List.length_append,List.length_singleton];omega
 have nn:∀id,lifeOf (L++[v]) id≠none→0≤id:=fun id hid=>h.nn id fun hq=>hid (by rw [lifeOf_snoc,hq];dsimp only;rw [hx,if_neg (by decide)])
 refine⟨h.es,h.ep,fun id g hg=> ?_,fun i z hz=> ?_,h.nle,nn,.snoc h.pr fun _=>by rw [hv,f1];simp⟩
 ·rw [lifeOf_snoc]at hg
  cases hq:lifeOf L id with
  | none=>rw [hq]at hg;dsimp only at hg;rw [hx,if_neg (by decide)]at hg;cases hg
  | some q=>
   rw [hq]at hg;cases hg
   have qid:=lifeOf_id hq
   obtain⟨l1,l2,l3,l4⟩:=h.lf id q hq
   rw [add_script]
   refine⟨l1,l2,l3,?_⟩
   by_cases c:id=x.id
   ·subst c
    rw [f1]at hq;cases hq
    rw [←f2];omega
   ·have hne:v.id≠q.id:=by rw [qid,hv];exact fun hh=>c hh.symm
    rw [(add_ne hne).1,(add_ne hne).2];exact l4
 ·rw [setSeat_seat hk]at hz
  split at hz
  ·cases hz
   exact⟨hs,hp,f.add v,by rw [hid,lifeOf_snoc,f1],by rw [add_script];exact hpp.trans f2,by rw [hpp];exact new⟩
  ·rename_i hik
   obtain⟨t1,t2,q,q1,q2,q3⟩:=h.st i z hz
   have qid:=lifeOf_id q1
   have hne:v.id≠q.id:=by
    rw [qid,hv];exact fun hh=>hik (ho.nd _ _ _ _ hz hk hh.symm)
   exact⟨t1,t2,q.add v,by rw [lifeOf_snoc,q1],by rw [add_script];exact q2,by rw [(add_ne hne).1,(add_ne hne).2];exact q3⟩
theorem PI.last (h:PI su ps L e) (ho:e.Ok) {k:Nat} {x:Seat} {y:Option Seat} {v:EvM} (hk:e.seat k=some x) (hv:v.id=x.id) (k8:v.kind=8):PI su ps (L++[v]) (((e.setSeat k y).tell v).gone k x.id):=by
 have hx:∀id,v.opens id=false:=fun id=>by unfold EvM.opens;exact decide_eq_false (by omega)
 obtain⟨s1,s2,f,f1,f2,f3⟩:=h.st k x hk
 have fid:=lifeOf_id f1
 have hv2:v.id=f.id:=by rw [fid];exact hv
 have p1:=pot_one x.d
 have nn:∀id,lifeOf (L++[v]) id≠none→0≤id:=fun id hid=>h.nn id fun hq=>hid (by rw [lifeOf_snoc,hq];dsimp only;rw [hx,if_neg (by decide)])
 refine⟨h.es,h.ep,fun id g hg=> ?_,fun i z hz=> ?_,by show(e.slots.close x.id).next≤4096;rw [close_next];exact h.nle,nn,.snoc h.pr fun _=>by rw [hv,f1];simp⟩
 ·have hnext:((((e.setSeat k y).tell v).gone k x.id).slots).next=e.slots.next:=close_next _ _
  rw [hnext]
  rw [lifeOf_snoc]at hg
  cases hq:lifeOf L id with
  | none=>rw [hq]at hg;dsimp only at hg;rw [hx,if_neg (by decide)]at hg;cases hg
  | some q=>
   rw [hq]at hg;cases hg
   have qid:=lifeOf_id hq
   obtain⟨l1,l2,l3,l4⟩:=h.lf id q hq
   rw [add_script]
   refine⟨l1,l2,l3,?_⟩
   by_cases c:id=x.id
   ·subst c
    rw [f1]at hq;cases hq
    rw [(add_step hv2 k8).1,(add_step hv2 k8).2,List.length_append,List.length_singleton,←f2];omega
   ·have hne:v.id≠q.id:=by rw [qid,hv];exact fun hh=>c hh.symm
    rw [(add_ne hne).1,(add_ne hne).2];exact l4
 ·rw [gone_seat]at hz
  split at hz
  ·cases hz
  ·rename_i hik
   have hz2:e.seat i=some z:=by
    unfold Eng.tell Eng.setSeat Eng.seat at hz
    simp only at hz
    rw [List.getD_eq_getElem?_getD,List.getElem?_set_ne (fun hh=>hik hh.symm),←List.getD_eq_getElem?_getD]at hz
    exact hz
   obtain⟨t1,t2,q,q1,q2,q3⟩:=h.st i z hz2
   have qid:=lifeOf_id q1
   have hne:v.id≠q.id:=by
    rw [qid,hv];exact fun hh=>hik (ho.nd _ _ _ _ hz2 hk hh.symm)
   exact⟨t1,t2,q.add v,by rw [lifeOf_snoc,q1],by rw [add_script];exact q2,by rw [(add_ne hne).1,(add_ne hne).2];exact q3⟩
end
section
variable {su:Setup} {ps:List PrM} {acc:List EvM} {e:Eng}
theorem pi_step (ho:e.Ok) (h:PI su ps (acc++e.out) e) (k:Nat):PI su ps (acc++(e.step k).2.out) (e.step k).2:=by
 unfold Eng.step
 cases hk:e.seat k with
 | none=>exact h
 | some x=>
  dsimp only
  obtain⟨d1,d2,d4⟩:=ho.dO k x hk
  obtain⟨s1,s2,_⟩:=h.st k x hk
  cases hst:x.d.step e.clock with
  | none=>
   dsimp only
   rw [if_pos s1]
   exact h
  | some y=>
   obtain⟨y,d'⟩:=y
   dsimp only
   have hl:=step_like hst
   split
   ·rename_i h0
    have hpp:=step_pot d1 s2 (by have:=ho.c1;omega) hst h0
    show PI su ps (acc++(e.out++[evStep x.id y])) _
    rw [←List.append_assoc]
    exact(h.seatEv ho (y:={x with d:=d'}) (v:=evStep x.id y) hk rfl h0 hpp.2 hl.2.1 rfl (.inr ⟨rfl,hpp.1⟩)).same rfl rfl (Int.le_refl _) fun _ _ hz=>hz
   ·show PI su ps (acc++(e.out++[evStep x.id y])) _
    rw [←List.append_assoc]
    exact h.last ho (v:=evStep x.id y) hk rfl rfl
theorem settle_fix (e:Eng) (k:Nat):(e.settle k).s=e.s∧(e.settle k).scripts=e.scripts∧(e.settle k).slots=e.slots:=by unfold Eng.settle;cases e.seat k <;>exact⟨rfl,rfl,rfl⟩
theorem pi_settle (h:PI su ps (acc++e.out) e) (k:Nat):PI su ps (acc++(e.settle k).out) (e.settle k):=by
 obtain⟨f1,f2,f3⟩:=settle_fix e k
 rw [settle_out]
 exact h.same f1 f2 (by rw [f3];exact Int.le_refl _) (fun i x hx=>by rw [settle_seat]at hx;exact hx) (by rw [f3];exact id)
theorem pi_open (ho:e.Ok) (h:PI su ps (acc++e.out) e) (n:Int):PI su ps (acc++(e.open n).out) (e.open n):=by
 unfold Eng.open
 split
 ·show PI su ps (acc++(e.out++[evRefuse e.slots.skipped n (e.refused n)])) _
  rw [←List.append_assoc]
  refine(h.tell (x:=evRefuse e.slots.skipped n (e.refused n)) (show(3:Int)≠2 by decide) (show(3:Int)≠4 by decide) (show(3:Int)≠8 by decide)).same rfl rfl ?_ (fun _ _ hz=>hz) ?_
  ·show e.slots.next≤e.slots.skip.next
   unfold Slots.skip;split
   ·exact Int.le_refl _
   ·simp only;omega
  ·show _→e.slots.skip.next≤4096
   unfold Slots.skip;split
   ·exact id
   ·simp only;omega
 ·rename_i hr
  have hr:=Decidable.not_not.1 hr
  obtain⟨r1,r2,r3,r4,r5⟩:=refused_facts hr
  have hok:=open_pre ho hr
  obtain⟨f1,f2⟩:=first_free r5
  rw [ho.l2]at f1
  refine pi_settle (acc:=acc) (e:={e with slots:=e.slots.open,seats:=e.seats.set e.slots.first (some ⟨e.slots.next,Dia.new e.s (e.scripts.getD n.toNat PrM.zero) e.clock,[],false⟩),out:=e.out++[evOpen e.slots.next n]}) ?_ _
  show PI su ps (acc++(e.out++[evOpen e.slots.next n])) _
  rw [←List.append_assoc]
  have fresh:lifeOf (acc++e.out) e.slots.next=none:=by
   cases hl:lifeOf (acc++e.out) e.slots.next with
   | none=>rfl
   | some f=>have:=(h.lf _ f hl).1;omega
  have hop:∀id,(evOpen e.slots.next n).opens id=decide (e.slots.next=id):=fun id=>by
   unfold EvM.opens evOpen;simp
  have old:∀id f,lifeOf (acc++e.out) id=some f→lifeOf ((acc++e.out)++[evOpen e.slots.next n]) id=some (f.add (evOpen e.slots.next n))∧(f.add (evOpen e.slots.next n)).steps=f.steps∧(f.add (evOpen e.slots.next n)).read=f.read∧(f.add (evOpen e.slots.next n)).script=f.script:=fun id f hf=>
   ⟨by rw [lifeOf_snoc,hf],(add_other (by decide:(2:Int)≠4) (by decide:(2:Int)≠8)).1,(add_other (by decide:(2:Int)≠4) (by decide:(2:Int)≠8)).2,add_script _ _⟩
  have hnp:=new_pot (s:=e.s) (p:=e.scripts.getD n.toNat PrM.zero) (now:=e.clock) ho.sg
  have hnl:=new_like e.s (e.scripts.getD n.toNat PrM.zero) e.clock
  refine⟨h.es,h.ep,fun id f hf=> ?_,fun i x hx=> ?_,(by show e.slots.next+1≤4096;omega),fun id hid=> ?_,.snoc h.pr fun hh=>absurd hh (by show¬((2:Int)=8∨(2:Int)=4);decide)⟩
  rotate_right
  ·cases hq:lifeOf (acc++e.out) id with
   | some q=>exact h.nn id (by rw [hq];simp)
   | none=>
    rw [lifeOf_snoc,hq]at hid
    dsimp only at hid
    rw [hop]at hid
    split at hid
    ·rename_i c
     have c:=of_decide_eq_true c
     have:=ho.n0
     omega
    ·exact absurd rfl hid
  ·show id<e.slots.next+1∧_
   cases hq:lifeOf (acc++e.out) id with
   | some q=>
    obtain⟨o1,o2,o3,o4⟩:=old id q hq
    rw [o1]at hf;cases hf
    rw [o2,o3,o4]
    obtain⟨l1,l2⟩:=h.lf id q hq
    exact⟨by omega,l2⟩
   | none=>
    rw [lifeOf_snoc,hq]at hf
    dsimp only at hf
    rw [hop]at hf
    split at hf
    ·rename_i c
     have c:=of_decide_eq_true c
     cases hf
     refine⟨by omega,⟨r1.1,by rw [←h.ep];exact r1.2⟩,by rw [←h.ep];exact r2,Nat.zero_le _⟩
    ·cases hf
  ·unfold Eng.seat at hx
   simp only at hx
   rw [List.getD_eq_getElem?_getD,List.getElem?_set]at hx
   by_cases hi:e.slots.first=i
   ·rw [if_pos hi,if_pos (by rw [ho.l1];exact f1)]at hx
    cases hx
    refine⟨hnl.2.2.1,hnp.2,{LifeM.new e.slots.next with from_:=(acc++e.out).foldl from1 0,script:=n},?_,?_,?_⟩
    ·rw [lifeOf_snoc,fresh]
     dsimp only
     rw [hop,if_pos (decide_eq_true rfl)]
     rfl
    ·show(Dia.new e.s (e.scripts.getD n.toNat PrM.zero) e.clock).p=_
     rw [hnl.2.1,h.ep]
    ·show 0+(Dia.new e.s (e.scripts.getD n.toNat PrM.zero) e.clock).pot≤capC su (Dia.new e.s (e.scripts.getD n.toNat PrM.zero) e.clock).p+_
     rw [hnl.2.1]
     have:=hnp.1
     rw [←h.es]
     unfold capC
     omega
   ·rw [if_neg hi,←List.getD_eq_getElem?_getD]at hx
    obtain⟨s1,s2,q,q1,q2,q3⟩:=h.st i x hx
    obtain⟨o1,o2,o3,o4⟩:=old _ q q1
    exact⟨s1,s2,_,o1,by rw [o4];exact q2,by rw [o2,o3];exact q3⟩
theorem pi_offer (ho:e.Ok) (h:PI su ps (acc++e.out) e) (o:OfferM):PI su ps (acc++(e.offer o).out) (e.offer o):=by
 unfold Eng.offer
 cases e.slots.slot o.id with
 | none=>exact h
 | some k=>
  dsimp only
  cases hk:e.seat k with
  | none=>exact h
  | some x=>
   dsimp only
   obtain⟨s1,s2,_⟩:=h.st k x hk
   split
   ·exact h
   ·exact h.seat ho (y:={x with q:=x.q++o.bytes.data.toList,eof:=o.eof}) hk rfl s1 s2 rfl (Nat.le_refl _)
theorem pi_cut1 (ho:e.Ok) (h:PI su ps (acc++e.out) e) (t:Int) (now:Bool) (id:Int):PI su ps (acc++(e.cut1 t now id).out) (e.cut1 t now id):=by
 unfold Eng.cut1
 cases e.slots.slot id with
 | none=>exact h
 | some k=>
  dsimp only
  cases hk:e.seat k with
  | none=>exact h
  | some x=>
   dsimp only
   obtain⟨s1,s2,_⟩:=h.st k x hk
   obtain⟨d1,d2,d4⟩:=ho.dO k x hk
   have hc:=cut_like x.d t
   have hcp:=cut_pot s2 t
   have hpp:(x.d.cut t).p=x.d.p:=by unfold Dia.cut;split <;>rfl
   have h1:PI su ps (acc++(e.setSeat k (some {x with d:=x.d.cut t})).out) (e.setSeat k (some {x with d:=x.d.cut t})):=
    h.seat ho (y:={x with d:=x.d.cut t}) hk rfl (hc.2.1.trans s1) hcp.2 hpp (by show(x.d.cut t).pot≤_;rw [hcp.1];exact Nat.le_refl _)
   have ho1:(e.setSeat k (some {x with d:=x.d.cut t})).Ok:=setSeat_ok (y:={x with d:=x.d.cut t}) ho hk rfl ⟨cut_ok d1 t,hc.1.trans d2,by show(x.d.cut t).now≤_;rw [hc.2.2];exact d4⟩
   split
   ·exact pi_settle h1 k
   ·split
    ·exact pi_settle (pi_step ho1 h1 k) k
    ·exact pi_step ho1 h1 k
theorem pi_foldl {α:Type} {f:Eng→α→Eng} (hf:∀(e:Eng) (a:α),e.Ok→PI su ps (acc++e.out) e→(f e a).Ok∧PI su ps (acc++(f e a).out) (f e a)):∀(l:List α) (e:Eng),e.Ok→PI su ps (acc++e.out) e→(l.foldl f e).Ok∧PI su ps (acc++(l.foldl f e).out) (l.foldl f e)
 | [],_,ho,h=>⟨ho,h⟩
 | a::l,e,ho,h=>pi_foldl hf l (f e a) (hf e a ho h).1 (hf e a ho h).2
theorem pi_cut (ho:e.Ok) (h:PI su ps (acc++e.out) e) (t:Int) (now:Bool):PI su ps (acc++(e.cut t now).out) (e.cut t now):=by
 unfold Eng.cut
 refine(pi_foldl (fun e a ho h=>⟨cut1_ok ho t now a,pi_cut1 ho h t now a⟩) _ _ ?_ ?_).2
 ·exact{ho with}
 ·show PI su ps (acc++(e.out++[evDrain t])) _
  rw [←List.append_assoc]
  exact(h.tell (x:=evDrain t) (show(7:Int)≠2 by decide) (show(7:Int)≠4 by decide) (show(7:Int)≠8 by decide)).same rfl rfl (Int.le_refl _) fun _ _ hz=>hz
theorem pi_drain (ho:e.Ok) (h:PI su ps (acc++e.out) e) (r:RoundM):PI su ps (acc++(e.drain r).out) (e.drain r):=by
 unfold Eng.drain
 split
 ·exact pi_cut ho h _ _
 ·split
  ·exact pi_cut ho h _ _
  ·exact h
theorem pi_read (ho:e.Ok) (h:PI su ps (acc++e.out) e) (k:Nat):PI su ps (acc++(e.read k).out) (e.read k):=by
 unfold Eng.read
 cases hk:e.seat k with
 | none=>exact h
 | some x=>
  dsimp only
  obtain⟨s1,s2,_⟩:=h.st k x hk
  obtain⟨d1,d2,d4⟩:=ho.dO k x hk
  by_cases c0:x.d.room=0
  ·rw [if_pos c0];exact h
  ·rw [if_neg c0]
   have key:∀(e1:Eng) (x1:Seat),e1.Ok→PI su ps (acc++e1.out) e1→e1.seat k=some x1→x1.id=x.id→PI su ps (acc++(if x1.over&&(x1.d.runs&& !x1.d.eof)then(e1.setSeat k (some {x1 with d:=x1.d.ends})).tell (evEof x.id)else e1).out) (if x1.over&&(x1.d.runs&& !x1.d.eof)then(e1.setSeat k (some {x1 with d:=x1.d.ends})).tell (evEof x.id)else e1):=by
    intro e1 x1 ho1 h1 hk1 hid
    split
    ·obtain⟨t1,t2,_⟩:=h1.st k x1 hk1
     have he:=ends_pot t2
     have hl:=ends_like x1.d
     have hpp:x1.d.ends.p=x1.d.p:=by unfold Dia.ends;split <;>rfl
     show PI su ps (acc++(e1.out++[evEof x.id])) _
     rw [←List.append_assoc]
     exact((h1.seat ho1 (y:={x1 with d:=x1.d.ends}) hk1 rfl (hl.2.1.trans t1) he.2 hpp (by show x1.d.ends.pot≤_;rw [he.1];exact Nat.le_refl _)).tell (x:=evEof x.id) (show(5:Int)≠2 by decide) (show(5:Int)≠4 by decide) (show(5:Int)≠8 by decide)).same rfl rfl (Int.le_refl _) fun _ _ hz=>hz
    ·exact h1
   by_cases c1:x.reads=[]
   ·rw [if_pos c1,if_pos c1]
    exact key e x ho h hk rfl
   ·rw [if_neg c1,if_neg c1]
    have hl:=put_like x.d (x.q.take x.d.room)
    have hpp:(x.d.put (x.q.take x.d.room)).p=x.d.p:=by unfold Dia.put;split <;>rfl
    refine key _ _ ?_ ?_ ?_ rfl
    ·exact tell_ok (setSeat_ok (y:=x.read1) ho hk rfl ⟨put_ok d1 _,hl.1.trans d2,by show(x.d.put _).now≤_;rw [hl.2.2];exact d4⟩) _
    ·show PI su ps (acc++(e.out++[evRead x.id ⟨⟨x.reads⟩⟩])) _
     rw [←List.append_assoc]
     exact(h.seatEv ho (y:=x.read1) (v:=evRead x.id ⟨⟨x.reads⟩⟩) hk rfl (hl.2.1.trans s1) (put_pr s2 _) hpp rfl (.inl ⟨rfl,put_pot _ _⟩)).same rfl rfl (Int.le_refl _) fun _ _ hz=>hz
    ·exact(setSeat_seat hk x.read1 k).trans (if_pos rfl)
theorem pi_write (ho:e.Ok) (h:PI su ps (acc++e.out) e) (k:Nat) (n:Int):PI su ps (acc++(e.write k n).out) (e.write k n):=by
 unfold Eng.write
 cases hk:e.seat k with
 | none=>exact h
 | some x=>
  dsimp only
  obtain⟨s1,s2,_⟩:=h.st k x hk
  have ht:=take_pot s2 n
  have hl:=take_like x.d n
  have hpp:(x.d.take n).p=x.d.p:=by unfold Dia.take;split <;>rfl
  have h1:=h.seat ho (y:={x with d:=x.d.take n}) hk rfl (hl.2.1.trans s1) ht.2 hpp (by show(x.d.take n).pot≤_;rw [ht.1];exact Nat.le_refl _)
  split
  ·exact h1
  ·show PI su ps (acc++(e.out++[evWrite x.id (x.d.taken n)])) _
   rw [←List.append_assoc]
   exact(h1.tell (x:=evWrite x.id (x.d.taken n)) (show(6:Int)≠2 by decide) (show(6:Int)≠4 by decide) (show(6:Int)≠8 by decide)).same rfl rfl (Int.le_refl _) fun _ _ hz=>hz
theorem pi_report (ho:e.Ok) (h:PI su ps (acc++e.out) e) (r:ReportM):PI su ps (acc++(e.report r).out) (e.report r):=by
 unfold Eng.report
 cases e.slots.slot r.id with
 | none=>exact h
 | some k=>
  dsimp only
  have h1:PI su ps (acc++(e.reported r k).out) (e.reported r k):=by
   unfold Eng.reported
   dsimp only
   by_cases c:r.read=true
   ·rw [if_pos c]
    split
    ·exact pi_write (read_ok ho k).1 (pi_read ho h k) k _
    ·exact pi_read ho h k
   ·rw [if_neg c]
    split
    ·exact pi_write ho h k _
    ·exact h
  split
  ·exact pi_settle h1 k
  ·exact h1
theorem pi_spend:∀(f:Nat) (e:Eng) (k:Nat),e.Ok→PI su ps (acc++e.out) e→PI su ps (acc++(Eng.spend f e k).2.out) (Eng.spend f e k).2
 | 0,_,_,_,h=>h
 | f+1,e,k,ho,h=>by
  rw [Eng.spend]
  cases hk:e.seat k with
  | none=>exact h
  | some x=>
   dsimp only
   split
   ·split
    ·have ho1:=pay_ok ho x.d.price
     have h1:PI su ps (acc++({e with turns:=(e.turns.pay x.d.price).1}:Eng).out) {e with turns:=(e.turns.pay x.d.price).1}:=h.same rfl rfl (Int.le_refl _) fun _ _ hz=>hz
     split
     ·exact pi_spend f _ k (step_eng_ok ho1 k) (pi_step ho1 h1 k)
     ·exact pi_step ho1 h1 k
    ·exact h
   ·exact h
theorem pi_turn (ho:e.Ok) (h:PI su ps (acc++e.out) e):PI su ps (acc++e.turn.2.out) e.turn.2:=by
 unfold Eng.turn
 cases hb:e.turns.begin.2 with
 | none=>exact h
 | some k=>
  dsimp only
  obtain⟨ho1,_⟩:=begin_ok ho hb
  have h1:PI su ps (acc++({e with turns:=e.turns.begin.1}:Eng).out) {e with turns:=e.turns.begin.1}:=h.same rfl rfl (Int.le_refl _) fun _ _ hz=>hz
  have h2:=pi_spend ((e.turns.begin.1.has.getD k 0).toNat+1) _ k ho1 h1
  split
  ·unfold Eng.rest
   cases(Eng.spend ((e.turns.begin.1.has.getD k 0).toNat+1) {e with turns:=e.turns.begin.1} k).2.seat k with
   | none=>exact h2
   | some x=>exact h2.same rfl rfl (Int.le_refl _) fun _ _ hz=>hz
  ·exact h2
theorem pi_visit:∀(v:Nat) (e:Eng),e.Ok→PI su ps (acc++e.out) e→PI su ps (acc++(Eng.visit v e).out) (Eng.visit v e)
 | 0,_,_,h=>h
 | v+1,e,ho,h=>by
  rw [Eng.visit]
  split
  ·exact pi_visit v _ (turn_ok ho) (pi_turn ho h)
  ·exact h
theorem pi_wakeAll (ho:e.Ok) (h:PI su ps (acc++e.out) e):PI su ps (acc++e.wakeAll.out) e.wakeAll:=by
 unfold Eng.wakeAll
 have:∀(l:List (Int×Nat)) (e:Eng),PI su ps (acc++e.out) e→PI su ps (acc++(l.foldl (fun e t=>e.settle t.2) e).out) (l.foldl (fun e t=>e.settle t.2) e):=by
  intro l
  induction l with
  | nil=>exact fun _ h=>h
  | cons a l ih=>exact fun e h=>ih _ (pi_settle h a.2)
 exact this _ _ (h.same rfl rfl (Int.le_refl _) fun _ _ hz=>hz)
theorem pi_halt (h:PI su ps (acc++e.out) e):PI su ps (acc++e.halt.out) e.halt:=by
 unfold Eng.halt
 split
 ·show PI su ps (acc++(e.out++[evStop])) _
  rw [←List.append_assoc]
  exact(h.tell (x:=evStop) (show(9:Int)≠2 by decide) (show(9:Int)≠4 by decide) (show(9:Int)≠8 by decide)).same rfl rfl (Int.le_refl _) fun _ _ hz=>hz
 ·exact h
theorem pi_round (ho:e.Ok) (h:PI su ps acc e) (r:RoundM):PI su ps (acc++(e.round r).out) (e.round r):=by
 have h1:PI su ps (acc++(e.start r).out) (e.start r):=
  (h.tell (x:=evRound (min (tadd e.clock r.ticks) (never-1))) (show(1:Int)≠2 by decide) (show(1:Int)≠4 by decide) (show(1:Int)≠8 by decide)).same rfl rfl (Int.le_refl _) fun _ _ hz=>hz
 have o1:=start_ok ho r
 obtain⟨o2,h2⟩:=pi_foldl (acc:=acc) (fun e a ho h=>⟨open_ok ho a,pi_open ho h a⟩) r.opens _ o1 h1
 obtain⟨o3,h3⟩:=pi_foldl (acc:=acc) (fun e a ho h=>⟨offer_ok ho a,pi_offer ho h a⟩) r.offers _ o2 h2
 have h4:=pi_drain o3 h3 r
 have o4:=drain_ok o3 r
 obtain⟨o5,h5⟩:=pi_foldl (acc:=acc) (fun e a ho h=>⟨report_ok ho a,pi_report ho h a⟩) r.reports _ o4 h4
 have h6:=pi_wakeAll o5 h5
 have o6:=wakeAll_ok o5
 exact pi_halt (pi_visit _ _ o6 h6)
theorem pi_run:∀(rs:List RoundM) (f:FairM),f.e.Ok→PI su ps f.out f.e→(rs.foldl FairM.round f).e.Ok∧PI su ps (rs.foldl FairM.round f).out (rs.foldl FairM.round f).e
 | [],_,ho,h=>⟨ho,h⟩
 | r::rs,f,ho,h=>pi_run rs (f.round r) (round_ok ho r) (pi_round ho h r)
theorem pi_new (su:Setup) (ps:List PrM):PI su ps [] (Eng.new su ps):=by
 refine⟨rfl,rfl,(fun id f hf=>by cases hf),fun k x hx=> ?_,(by show(0:Int)≤4096;decide),(fun id hid=>absurd rfl hid),.nil⟩
 unfold Eng.seat Eng.new at hx
 simp only [List.getD_eq_getElem?_getD,List.getElem?_replicate]at hx
 split at hx <;>simp at hx
theorem progress {su:Setup} {ps:List PrM} {rs:List RoundM} (hs:good su=true) (hf:∀p∈ps,p.Fit) (hl:ps.length≤64) {id:Int} {f:LifeM} (h:lifeOf (FairM.run su ps rs).out id=some f):
  (0≤f.script∧f.script<ps.length)∧goodP (ps.getD f.script.toNat PrM.zero)=true∧f.steps.length≤capC su (ps.getD f.script.toNat PrM.zero)+f.read.size:=
 ((pi_run rs (FairM.new su ps) (new_eng_ok hs hf hl) (pi_new su ps)).2.lf id f h).2
end
def wSum (w:EvM→Nat) (L:List EvM):Nat:=(L.map w).sum
theorem wSum_app (w:EvM→Nat) (a b:List EvM):wSum w (a++b)=wSum w a+wSum w b:=by simp [wSum]
theorem wSum_one (w:EvM→Nat) (x:EvM):wSum w [x]=w x:=by simp [wSum]
def wOf (w:EvM→Nat) (k:Int) (x:EvM):Nat:=if x.id=k then w x else 0
theorem range_ite (id:Int) (c:Nat):∀N:Nat,((List.range N).map fun k:Nat=>if id=(k:Int)then c else 0).sum=if 0≤id∧id<N then c else 0
 | 0=>by simp;intro h1 h2;omega
 | N+1=>by
  rw [List.range_succ,List.map_append,List.sum_append,range_ite id c N]
  simp only [List.map_cons,List.map_nil,List.sum_cons,List.sum_nil,Nat.add_zero]
  by_cases h1:0≤id∧id<N
  ·rw [if_pos h1,if_neg (by omega),if_pos (by omega)];omega
  ·rw [if_neg h1]
   by_cases h2:id=N
   ·rw [if_pos h2,if_pos (by omega)];omega
   ·rw [if_neg h2,if_neg (by omega)]
theorem sum_add (f g:Nat→Nat):∀l:List Nat,(l.map fun k=>f k+g k).sum=(l.map f).sum+(l.map g).sum
 | []=>rfl
 | a::l=>by simp only [List.map_cons,List.sum_cons,sum_add f g l];omega
theorem sum_mono {f g:Nat→Nat}:∀l:List Nat,(∀k∈l,f k≤g k)→(l.map f).sum≤(l.map g).sum
 | [],_=>Nat.le_refl _
 | a::l,h=>by
  have h1:=h a List.mem_cons_self
  have h2:=sum_mono l fun k hk=>h k (List.mem_cons_of_mem _ hk)
  simp only [List.map_cons,List.sum_cons];omega
theorem sum_const (c:Nat):∀l:List Nat,(l.map fun _=>c).sum=l.length*c
 | []=>by simp
 | a::l=>by simp only [List.map_cons,List.sum_cons,sum_const c l,List.length_cons];rw [Nat.succ_mul];omega
theorem ids_sum (w:EvM→Nat) (N:Nat):∀L:List EvM,((List.range N).map fun k:Nat=>wSum (wOf w k) L).sum=wSum (fun x=>if 0≤x.id∧x.id<N then w x else 0) L
 | []=>by
  have:=sum_const 0 (List.range N)
  simp only [wSum,List.map_nil,List.sum_nil]at this ⊢
  omega
 | x::L=>by
  have ih:=ids_sum w N L
  have e1:(fun k:Nat=>wSum (wOf w k) (x::L))=fun k:Nat=>(if x.id=(k:Int)then w x else 0)+wSum (wOf w k) L:=by
   funext k;simp [wSum,wOf]
  rw [e1,sum_add,range_ite,ih]
  simp [wSum]
theorem wSum_mono {w v:EvM→Nat}:∀{L:List EvM},(∀x∈L,w x≤v x)→wSum w L≤wSum v L
 | [],_=>Nat.le_refl _
 | a::L,h=>by
  have h1:=h a List.mem_cons_self
  have h2:=wSum_mono (L:=L) fun k hk=>h k (List.mem_cons_of_mem _ hk)
  simp only [wSum,List.map_cons,List.sum_cons]at h2 ⊢;omega
def wSt (x:EvM):Nat:=if x.kind=8 then 1 else 0
def wRd (x:EvM):Nat:=if x.kind=4 then x.bytes.size else 0
def wOt (x:EvM):Nat:=if x.kind=8 then 0 else 1
theorem len_split:∀L:List EvM,L.length=wSum wSt L+wSum wOt L
 | []=>rfl
 | x::L=>by
  have:=len_split L
  simp only [wSum,List.map_cons,List.sum_cons,List.length_cons]at this ⊢
  unfold wSt wOt at *
  split <;>omega
theorem pre_life {L:List EvM} (h:Pre L) (id:Int):wSum (wOf wSt id) L=((lifeOf L id).map fun f=>f.steps.length).getD 0∧wSum (wOf wRd id) L=((lifeOf L id).map fun f=>f.read.size).getD 0:=by
 induction h with
 | nil=>exact⟨rfl,rfl⟩
 | @snoc L x h hx ih=>
  rw [wSum_app,wSum_app,wSum_one,wSum_one,lifeOf_snoc,ih.1,ih.2]
  cases hq:lifeOf L id with
  | none=>
   have hk:¬(x.id=id∧(x.kind=8∨x.kind=4)):=fun hh=>hx hh.2 (by rw [hh.1];exact hq)
   have e8:wOf wSt id x=0:=by
    unfold wOf wSt
    split
    ·split
     ·exact absurd ⟨‹_›,.inl ‹_›⟩ hk
     ·rfl
    ·rfl
   have e4:wOf wRd id x=0:=by
    unfold wOf wRd
    split
    ·split
     ·exact absurd ⟨‹_›,.inr ‹_›⟩ hk
     ·rfl
    ·rfl
   rw [e8,e4]
   dsimp only
   split <;>exact⟨rfl,rfl⟩
  | some f=>
   have fid:=lifeOf_id hq
   dsimp only [Option.map_some,Option.getD_some]
   by_cases c:x.id=id
   ·have c':x.id=f.id:=by rw [fid];exact c
    by_cases k8:x.kind=8
    ·rw [(add_step c' k8).1,(add_step c' k8).2]
     simp [wOf,wSt,wRd,c,k8]
    ·by_cases k4:x.kind=4
     ·rw [(add_read c' k4).1,(add_read c' k4).2,ByteArray.size_append]
      simp [wOf,wSt,wRd,c,k4]
     ·rw [(add_other k4 k8).1,(add_other k4 k8).2]
      simp [wOf,wSt,wRd,c,k8,k4]
   ·have c':x.id≠f.id:=by rw [fid];exact c
    rw [(add_ne c').1,(add_ne c').2]
    simp [wOf,c]
theorem pre_mem {L:List EvM} (h:Pre L):∀x∈L,x.kind=8∨x.kind=4→lifeOf L x.id≠none:=by
 induction h with
 | nil=>exact fun x hx=>nomatch hx
 | @snoc L y h hy ih=>
  intro x hx hk
  have keep:∀id,lifeOf L id≠none→lifeOf (L++[y]) id≠none:=fun id hid=>by
   rw [lifeOf_snoc]
   cases hq:lifeOf L id with
   | none=>exact absurd hq hid
   | some f=>simp
  rcases List.mem_append.1 hx with hx | hx
  ·exact keep _ (ih x hx hk)
  ·rw [List.mem_singleton]at hx;subst hx;exact keep _ (hy hk)
theorem steps_sum {su:Setup} {ps:List PrM} {L:List EvM} {e:Eng} (h:PI su ps L e) {C:Nat} (hC:∀p,goodP p=true→capC su p≤C):wSum wSt L≤4096*C+wSum wRd L:=by
 have h1:wSum wSt L≤wSum (fun x=>if 0≤x.id∧x.id<(4096:Nat)then wSt x else 0) L:=wSum_mono fun x hx=>by
  by_cases k8:x.kind=8
  ·have hl:=pre_mem h.pr x hx (.inl k8)
   have h0:=h.nn _ hl
   have h2:x.id<e.slots.next:=by
    cases hq:lifeOf L x.id with
    | none=>exact absurd hq hl
    | some f=>exact(h.lf _ f hq).1
   have:=h.nle
   rw [if_pos ⟨h0,by omega⟩]
   exact Nat.le_refl _
  ·have:wSt x=0:=if_neg k8
   omega
 have h4:=ids_sum wSt 4096 L
 have h5:=ids_sum wRd 4096 L
 have h2:((List.range 4096).map fun k:Nat=>wSum (wOf wSt k) L).sum≤((List.range 4096).map fun k:Nat=>C+wSum (wOf wRd k) L).sum:=sum_mono _ fun k _=>by
  rw [(pre_life h.pr k).1,(pre_life h.pr k).2]
  cases hq:lifeOf L k with
  | none=>simp
  | some f=>
   obtain⟨_,_,g,l⟩:=h.lf _ f hq
   have:=hC _ g
   simp only [Option.map_some,Option.getD_some]
   omega
 rw [sum_add,sum_const,List.length_range]at h2
 have h3:wSum (fun x=>if 0≤x.id∧x.id<(4096:Nat)then wRd x else 0) L≤wSum wRd L:=wSum_mono fun x _=>by split <;>omega
 omega
def wBy (x:EvM):Nat:=x.bytes.size
def Cap (e e':Eng) (a b c:Nat):Prop:=wSum wOt e'.out≤wSum wOt e.out+a∧wSum wBy e'.out≤wSum wBy e.out+b∧wSum wRd e'.out≤wSum wRd e.out+c
section
variable {e e' e2:Eng} {a b c a' b' c':Nat}
theorem Cap.same (h:e'.out=e.out):Cap e e' 0 0 0:=by unfold Cap;rw [h];exact⟨Nat.le_refl _,Nat.le_refl _,Nat.le_refl _⟩
theorem Cap.tell {x:EvM} (h:e'.out=e.out++[x]) (h1:wOt x≤a) (h2:x.bytes.size≤b) (h3:wRd x≤c):Cap e e' a b c:=by
 unfold Cap;rw [h,wSum_app,wSum_app,wSum_app,wSum_one,wSum_one,wSum_one]
 exact⟨by omega,by unfold wBy;omega,by omega⟩
theorem Cap.trans (h:Cap e e' a b c) (h':Cap e' e2 a' b' c'):Cap e e2 (a+a') (b+b') (c+c'):=by unfold Cap at *;omega
theorem Cap.le (h:Cap e e' a b c) (h1:a≤a') (h2:b≤b') (h3:c≤c'):Cap e e' a' b' c':=by unfold Cap at *;omega
theorem Cap.end_ (h:Cap e e' a b c) (h':e2.out=e'.out):Cap e e2 a b c:=(h.trans (Cap.same h')).le (Nat.le_refl _) (Nat.le_refl _) (Nat.le_refl _)
theorem wOt_le (x:EvM):wOt x≤1:=by unfold wOt;split <;>omega
theorem cap_step (e:Eng) (k:Nat):Cap e (e.step k).2 0 0 0:=by
 unfold Eng.step
 cases e.seat k with
 | none=>exact Cap.same rfl
 | some x=>
  dsimp only
  cases x.d.step e.clock with
  | none=>dsimp only;split <;>exact Cap.same rfl
  | some y=>
   dsimp only
   split <;>exact Cap.tell (x:=evStep x.id y.1) rfl (Nat.le_refl _) (Nat.le_refl _) (Nat.le_refl _)
theorem cap_open (e:Eng) (n:Int):Cap e (e.open n) 1 0 0:=by
 unfold Eng.open
 split
 ·exact Cap.tell (x:=evRefuse e.slots.skipped n (e.refused n)) rfl (wOt_le _) (Nat.le_refl _) (Nat.le_refl _)
 ·refine Cap.end_ (e':={e with slots:=e.slots.open,seats:=e.seats.set e.slots.first (some ⟨e.slots.next,Dia.new e.s (e.scripts.getD n.toNat PrM.zero) e.clock,[],false⟩),out:=e.out++[evOpen e.slots.next n]}) ?_ (settle_out _ _)
  exact Cap.tell (x:=evOpen e.slots.next n) rfl (wOt_le _) (Nat.le_refl _) (Nat.le_refl _)
theorem cap_offer (e:Eng) (o:OfferM):Cap e (e.offer o) 0 0 0:=by
 unfold Eng.offer
 cases e.slots.slot o.id with
 | none=>exact Cap.same rfl
 | some k=>
  dsimp only
  cases e.seat k with
  | none=>exact Cap.same rfl
  | some x=>dsimp only;split <;>exact Cap.same rfl
theorem cap_cut1 (e:Eng) (t:Int) (now:Bool) (id:Int):Cap e (e.cut1 t now id) 0 0 0:=by
 unfold Eng.cut1
 cases e.slots.slot id with
 | none=>exact Cap.same rfl
 | some k=>
  dsimp only
  cases e.seat k with
  | none=>exact Cap.same rfl
  | some x=>
   dsimp only
   have h1:Cap e (e.setSeat k (some {x with d:=x.d.cut t})) 0 0 0:=Cap.same rfl
   have h2:=(h1.trans (cap_step _ k)).le (Nat.le_refl 0) (Nat.le_refl 0) (Nat.le_refl 0)
   split
   ·exact h1.end_ (settle_out _ _)
   ·split
    ·exact h2.end_ (settle_out _ _)
    ·exact h2
theorem cap_foldl {α:Type} {f:Eng→α→Eng} (hf:∀(e:Eng) (x:α),e.Ok→(f e x).Ok∧Cap e (f e x) a b c):∀(l:List α) (e:Eng),e.Ok→Cap e (l.foldl f e) (l.length*a) (l.length*b) (l.length*c)
 | [],_,_=>(Cap.same rfl).le (Nat.zero_le _) (Nat.zero_le _) (Nat.zero_le _)
 | x::l,e,ho=>by
  obtain⟨h1,h2⟩:=hf e x ho
  have:=h2.trans (cap_foldl hf l _ h1)
  refine this.le ?_ ?_ ?_ <;>rw [List.length_cons,Nat.succ_mul] <;>omega
theorem cap_cut (ho:e.Ok) (t:Int) (now:Bool):Cap e (e.cut t now) 1 0 0:=by
 unfold Eng.cut
 have h1:Cap e {e with drains:=true,out:=e.out++[evDrain t]} 1 0 0:=Cap.tell (x:=evDrain t) rfl (wOt_le _) (Nat.le_refl _) (Nat.le_refl _)
 have ho1:Eng.Ok {e with drains:=true,out:=e.out++[evDrain t]}:={ho with}
 have h2:=cap_foldl (f:=Eng.cut1 t now) (fun e id h=>⟨cut1_ok h t now id,cap_cut1 e t now id⟩) e.slots.live _ ho1
 exact(h1.trans h2).le (by omega) (by omega) (by omega)
theorem cap_drain (ho:e.Ok) (r:RoundM):Cap e (e.drain r) 1 0 0:=by
 unfold Eng.drain
 split
 ·exact cap_cut ho _ _
 ·split
  ·exact cap_cut ho _ _
  ·exact(Cap.same rfl).le (Nat.zero_le _) (Nat.zero_le _) (Nat.zero_le _)
theorem reads_le (ho:e.Ok) {k:Nat} {x:Seat} (hk:e.seat k=some x):x.reads.length≤4096:=by
 obtain⟨h1,h2,_⟩:=ho.dO k x hk
 have hg:=good_facts ho.sg
 unfold Seat.reads
 rw [List.length_take]
 have:x.d.room≤4096:=by
  unfold Dia.room Dia.fits
  rw [h2]
  split <;>omega
 omega
theorem cap_read (ho:e.Ok) (k:Nat):Cap e (e.read k) 2 4096 4096:=by
 unfold Eng.read
 cases hk:e.seat k with
 | none=>exact(Cap.same rfl).le (Nat.zero_le _) (Nat.zero_le _) (Nat.zero_le _)
 | some x=>
  dsimp only
  have hr:=reads_le ho hk
  split
  ·exact(Cap.same rfl).le (Nat.zero_le _) (Nat.zero_le _) (Nat.zero_le _)
  ·have h1:Cap e ((e.setSeat k (some x.read1)).tell (evRead x.id ⟨⟨x.reads⟩⟩)) 1 4096 4096:=Cap.tell (x:=evRead x.id ⟨⟨x.reads⟩⟩) rfl (wOt_le _) hr hr
   have h2:∀(e1:Eng) (y:Option Seat),Cap e1 ((e1.setSeat k y).tell (evEof x.id)) 1 0 0:=fun e1 y=>Cap.tell (x:=evEof x.id) rfl (wOt_le _) (Nat.le_refl _) (Nat.le_refl _)
   have h0:Cap e e 0 0 0:=Cap.same rfl
   by_cases c:x.reads=[]
   ·rw [if_pos c,if_pos c]
    split
    ·exact(h2 e _).le (by omega) (by omega) (by omega)
    ·exact h0.le (by omega) (by omega) (by omega)
   ·rw [if_neg c,if_neg c]
    split
    ·exact(h1.trans (h2 _ _)).le (by omega) (by omega) (by omega)
    ·exact h1.le (by omega) (by omega) (by omega)
theorem cap_write (ho:e.Ok) (k:Nat) (n:Int):Cap e (e.write k n) 1 1000000000000 0:=by
 unfold Eng.write
 cases hk:e.seat k with
 | none=>exact(Cap.same rfl).le (Nat.zero_le _) (Nat.zero_le _) (Nat.zero_le _)
 | some x=>
  dsimp only
  split
  ·exact(Cap.same rfl).le (Nat.zero_le _) (Nat.zero_le _) (Nat.zero_le _)
  ·have hou:=(ho.dO k x hk).1.ou
   have:(x.d.taken n).size≤1000000000000:=by
    have h3:=hou.h3
    unfold Dia.taken
    split
    ·unfold Wtr.taken
     split
     ·exact Nat.zero_le _
     ·rw [ByteArray.size_extract];omega
    ·exact Nat.zero_le _
   exact Cap.tell (x:=evWrite x.id (x.d.taken n)) rfl (wOt_le _) this (Nat.le_refl _)
theorem cap_report (ho:e.Ok) (r:ReportM):Cap e (e.report r) 3 1000000004096 4096:=by
 unfold Eng.report
 cases e.slots.slot r.id with
 | none=>exact(Cap.same rfl).le (Nat.zero_le _) (Nat.zero_le _) (Nat.zero_le _)
 | some k=>
  dsimp only
  have h1:Cap e (e.reported r k) 3 1000000004096 4096:=by
   unfold Eng.reported
   dsimp only
   have hw:∀e1:Eng,e1.Ok→Cap e1 (if r.write then e1.write k r.accept else e1) 1 1000000000000 0:=fun e1 ho1=>by
    split
    ·exact cap_write ho1 k _
    ·exact(Cap.same rfl).le (Nat.zero_le _) (Nat.zero_le _) (Nat.zero_le _)
   by_cases c:r.read=true
   ·rw [if_pos c]
    exact((cap_read ho k).trans (hw _ (read_ok ho k).1)).le (by omega) (by omega) (by omega)
   ·rw [if_neg c]
    exact(hw e ho).le (by omega) (by omega) (by omega)
  split
  ·exact h1.end_ (settle_out _ _)
  ·exact h1
theorem cap_spend:∀(f:Nat) (e:Eng) (k:Nat),Cap e (Eng.spend f e k).2 0 0 0
 | 0,_,_=>Cap.same rfl
 | f+1,e,k=>by
  rw [Eng.spend]
  cases e.seat k with
  | none=>exact Cap.same rfl
  | some x=>
   dsimp only
   split
   ·split
    ·have h1:Cap e ({e with turns:=(e.turns.pay x.d.price).1}:Eng) 0 0 0:=Cap.same rfl
     have h2:=h1.trans (cap_step {e with turns:=(e.turns.pay x.d.price).1} k)
     split
     ·exact h2.trans (cap_spend f _ k)
     ·exact h2
    ·exact Cap.same rfl
   ·exact Cap.same rfl
theorem cap_turn (e:Eng):Cap e e.turn.2 0 0 0:=by
 unfold Eng.turn
 cases e.turns.begin.2 with
 | none=>exact Cap.same rfl
 | some k=>
  dsimp only
  have h1:Cap e ({e with turns:=e.turns.begin.1}:Eng) 0 0 0:=Cap.same rfl
  have h2:=h1.trans (cap_spend ((e.turns.begin.1.has.getD k 0).toNat+1) {e with turns:=e.turns.begin.1} k)
  split
  ·refine h2.end_ ?_
   unfold Eng.rest
   cases(Eng.spend ((e.turns.begin.1.has.getD k 0).toNat+1) {e with turns:=e.turns.begin.1} k).2.seat k <;>rfl
  ·exact h2
theorem cap_visit:∀(v:Nat) (e:Eng),Cap e (Eng.visit v e) 0 0 0
 | 0,_=>Cap.same rfl
 | v+1,e=>by
  rw [Eng.visit]
  split
  ·exact(cap_turn e).trans (cap_visit v _)
  ·exact Cap.same rfl
theorem cap_wakeAll (e:Eng):Cap e e.wakeAll 0 0 0:=by
 unfold Eng.wakeAll
 have:∀(l:List (Int×Nat)) (e:Eng),(l.foldl (fun e t=>e.settle t.2) e).out=e.out:=by
  intro l
  induction l with
  | nil=>exact fun _=>rfl
  | cons a l ih=>exact fun e=>(ih _).trans (settle_out e a.2)
 exact Cap.same (this _ _)
theorem cap_halt (e:Eng):Cap e e.halt 1 0 0:=by
 unfold Eng.halt
 split
 ·exact Cap.tell (x:=evStop) rfl (wOt_le _) (Nat.le_refl _) (Nat.le_refl _)
 ·exact(Cap.same rfl).le (Nat.zero_le _) (Nat.zero_le _) (Nat.zero_le _)
def rBulk (r:RoundM):Nat:=3+r.opens.length+3*r.reports.length
theorem cap_round (ho:e.Ok) (r:RoundM):wSum wOt (e.round r).out≤rBulk r∧wSum wBy (e.round r).out≤r.reports.length*1000000004096∧wSum wRd (e.round r).out≤r.reports.length*4096:=by
 have o1:=start_ok ho r
 have h1:=cap_foldl (f:=Eng.open) (a:=1) (b:=0) (c:=0) (fun e n h=>⟨open_ok h n,cap_open e n⟩) r.opens _ o1
 have o2:(r.opens.foldl Eng.open (e.start r)).Ok:=foldl_ok (fun e n h=>open_ok h n) _ _ o1
 have h2:=cap_foldl (f:=Eng.offer) (a:=0) (b:=0) (c:=0) (fun e o h=>⟨offer_ok h o,cap_offer e o⟩) r.offers _ o2
 have o3:(r.offers.foldl Eng.offer (r.opens.foldl Eng.open (e.start r))).Ok:=foldl_ok (fun e n h=>offer_ok h n) _ _ o2
 have h3:=cap_drain o3 r
 have o4:=drain_ok o3 r
 have h4:=cap_foldl (f:=Eng.report) (a:=3) (b:=1000000004096) (c:=4096) (fun e x h=>⟨report_ok h x,cap_report h x⟩) r.reports _ o4
 have h5:=((((h1.trans h2).trans h3).trans h4).trans (cap_wakeAll _)).trans (cap_visit e.s.visits.toNat _)
 have h6:=h5.trans (cap_halt _)
 have e1:wSum wOt (e.start r).out=1:=rfl
 have e2:wSum wBy (e.start r).out=0:=rfl
 have e3:wSum wRd (e.start r).out=0:=rfl
 unfold Cap at h6
 rw [e1,e2,e3]at h6
 have h7:e.round r=(Eng.visit e.s.visits.toNat (r.reports.foldl Eng.report ((r.offers.foldl Eng.offer (r.opens.foldl Eng.open (e.start r))).drain r)).wakeAll).halt:=rfl
 rw [h7]
 unfold rBulk
 omega
end
theorem natSum_le {α:Type} (f:α→Nat) (c:Nat):∀l:List α,(∀x∈l,f x≤c)→(l.map f).sum≤l.length*c
 | [],_=>Nat.zero_le _
 | a::l,h=>by
  have h1:=h a List.mem_cons_self
  have h2:=natSum_le f c l fun x hx=>h x (List.mem_cons_of_mem _ hx)
  simp only [List.map_cons,List.sum_cons,List.length_cons,Nat.succ_mul];omega
theorem steps_le {su:Setup} {p:PrM} (hg:goodP p=true) (hs:good su=true):stepsOf su p≤51401:=by
 obtain⟨_,_,h3,h4⟩:=goodP_facts hg
 have ho:=good_facts hs
 unfold stepsOf
 have h1:=natSum_le (fun o:OpM=>cdiv o.text.size su.out.toNat) 256 p.ops fun o ho'=>Nat.le_trans (cdiv_le (by omega)) (text_le (h4 o ho'))
 have:p.ops.length*256≤200*256:=Nat.mul_le_mul_right _ h3
 omega
theorem cap_le {su:Setup} {p:PrM} (hg:goodP p=true) (hs:good su=true):capC su p≤102904802:=by
 obtain⟨_,⟨h1,h2⟩,_,_⟩:=goodP_facts hg
 have h3:=steps_le hg hs
 unfold capC
 have:2*stepsOf su p*(p.jumps.toNat+1)≤(2*51401)*(1000+1):=Nat.mul_le_mul (by omega) (by omega)
 omega
theorem run_cap:∀(rs:List RoundM) (f:FairM),f.e.Ok→wSum wOt (rs.foldl FairM.round f).out≤wSum wOt f.out+(rs.map rBulk).sum∧wSum wBy (rs.foldl FairM.round f).out≤wSum wBy f.out+(rs.map fun r=>r.reports.length).sum*1000000004096∧wSum wRd (rs.foldl FairM.round f).out≤wSum wRd f.out+(rs.map fun r=>r.reports.length).sum*4096
 | [],f,_=>⟨Nat.le_add_right _ _,Nat.le_add_right _ _,Nat.le_add_right _ _⟩
 | r::rs,f,ho=>by
  obtain⟨h1,h2,h3⟩:=run_cap rs (f.round r) (round_ok ho r)
  obtain⟨g1,g2,g3⟩:=cap_round ho r
  have e:(f.round r).out=f.out++(f.e.round r).out:=rfl
  rw [e,wSum_app]at h1 h2 h3
  simp only [List.foldl_cons,List.map_cons,List.sum_cons]
  refine⟨by omega,?_,?_⟩ <;>rw [Nat.add_mul] <;>omega
theorem run_told {su:Setup} {ps:List PrM} {rs:List RoundM} (hs:good su=true) (hf:∀p∈ps,p.Fit) (hl:ps.length≤64) (hb:(rs.map rBulk).sum≤1000000000) (hr:(rs.map fun r=>r.reports.length).sum≤4000000):
  (FairM.run su ps rs).out.length<999999999990∧evSum (FairM.run su ps rs).out≤9000000000000000000:=by
 have ho:=new_eng_ok (s:=su) (scripts:=ps) hs hf hl
 obtain⟨h1,h2,h3⟩:=run_cap rs (FairM.new su ps) ho
 have hp:=(pi_run rs (FairM.new su ps) ho (pi_new su ps)).2
 have h4:=steps_sum hp (C:=102904802) fun p hg=>cap_le hg hs
 have h5:=len_split (FairM.run su ps rs).out
 have e0:(FairM.new su ps).out=[]:=rfl
 rw [e0]at h1 h2 h3
 have z:∀w,wSum w []=0:=fun _=>rfl
 rw [z]at h1 h2 h3
 have e6:evSum (FairM.run su ps rs).out=wSum wBy (FairM.run su ps rs).out:=rfl
 rw [e6]
 unfold FairM.run at *
 omega
theorem read_le {su:Setup} {ps:List PrM} {rs:List RoundM} (hs:good su=true) (hf:∀p∈ps,p.Fit) (hl:ps.length≤64) (hr:(rs.map fun r=>r.reports.length).sum≤4000000) {id:Int} {f:LifeM} (h:lifeOf (FairM.run su ps rs).out id=some f):f.read.size≤16384000000:=by
 have ho:=new_eng_ok (s:=su) (scripts:=ps) hs hf hl
 obtain⟨_,_,h3⟩:=run_cap rs (FairM.new su ps) ho
 have hp:=(pi_run rs (FairM.new su ps) ho (pi_new su ps)).2
 have h4:=(pre_life hp.pr id).2
 unfold FairM.run at h
 rw [h]at h4
 have h5:wSum (wOf wRd id) (List.foldl FairM.round (FairM.new su ps) rs).out≤wSum wRd (List.foldl FairM.round (FairM.new su ps) rs).out:=wSum_mono fun x _=>by unfold wOf;split <;>omega
 have e0:wSum wRd (FairM.new su ps).out=0:=rfl
 rw [e0]at h3
 simp only [Option.map_some,Option.getD_some]at h4
 omega
end Go.Proofs.YtbjlfobjngogkaaGreatDoor
namespace Go.Proofs.YtbjlfobjngogkaaGreatDoor
open Go
set_option synthInstance.maxSize 100000
set_option synthInstance.maxHeartbeats 1000000
set_option maxRecDepth 100000
theorem rwIxF {α:Type} {sz t T by_ n c:Nat} {a:Option Addr} {i:Int} {cs:St} {e:Enc α sz} {l:List α} {K:Addr→SP} [p:SlcT t T sz by_] [r:Rw T sz cs a n c e l] (hi:0≤i∧i<n)
  (h:∀x q,l[i.toNat]? =some x→RdN cs q sz (e.f x)→(∀j u,(e.f x)[j]? =some u→RdV cs (q.add j) u)→IxP t (.slice a n c) i q→K q cs):ix t (.slice a n c) i K cs:=by
 obtain⟨x,b,o,T,cells,hx,rfl,hr,hc⟩:=r.h.elem hi
 refine ix_at hi.1 hi.2 ?_ (slc_ix p)
 have h0:=e.pos
 have hlen:o+i.toNat*sz+sz≤cells.length:=by
  have h1:(e.f x)[sz-1]? =some ((e.f x)[sz-1]'(by rw [e.len];omega)):=List.getElem?_eq_getElem _
  have:=lt_of_get (hc _ _ h1)
  omega
 have he:(cells.drop (o+i.toNat*sz)).take sz=e.f x:=by
  apply List.ext_getElem?
  intro j
  by_cases hj:j<sz
  ·rw [List.getElem?_take_of_lt hj,List.getElem?_drop]
   have h1:(e.f x)[j]? =some ((e.f x)[j]'(by rw [e.len];omega)):=List.getElem?_eq_getElem _
   rw [hc _ _ h1,h1]
  ·rw [List.getElem?_eq_none (by simp;omega),List.getElem?_eq_none (by rw [e.len];omega)]
 refine h x _ hx ⟨fun t ht E w hw=> ?_⟩ (fun j u hu=>⟨fun E w hw=>by rw [add_ad,hr.cell hw];exact hc j u hu⟩) ⟨fun E w hw=> ?_⟩
 ·have:=run_loadN ht (fun o=>hr.cell hw o) hlen
  rw [he]at this
  exact this
 ·have:= @ix_at [] t sz b o n c i (fun p _=>p=ad b (o+i.toNat*sz)) hi.1 hi.2 rfl (slc_ix p)
  obtain⟨v,h1,q,rfl,h2⟩:=this
  rw [h1 E w hw,h2]
section
variable {cs:St} {K:Value→SP}
theorem c3t {su:Setup} {src:ByteArray} {sa ra:Option Addr} {sn sc rn rc:Nat} {ps0:List PrM} {A:Chunk} {R:List RoV} (g:Glob cs) (rs:PrsR cs sa sn sc ps0) (hf:∀p∈ps0,p.Fit) (hn:sn≤1000000000)
  (v:Vie 73 6 ra rn rc encRo R A) (hR:∀y∈R,y.Ok A) (q:In cs A) (hrn:rn≤1000000000) (hs:roSum R≤1000000000000)
  (hb:((R.map RoV.m).map rBulk).sum≤1000000000) (hr:((R.map RoV.m).map fun r=>r.reports.length).sum≤4000000)
  (h:K (.bool true) cs):fn 3 [.agg ⟨stageC su src sa sn sc ra rn rc⟩] K cs:=up0 (f3 (by
 unfold s3
 refine go fun b1=> ?_
 refine c9t (A:=A) inferInstance (rs.sub fun x hx=>by simp only [List.flatten_cons,List.mem_append];exact .inr hx) hf hn v hR inferInstance hrn hs (fun gd ps hfp hlp=>(run_told gd hfp hlp hb hr).1) (fun a n c t1 t2 t3=> ?_) (fun gd a n c ch P ps rp hfp hnp hn64 oa on oc och t1 t2 t3 ro=> ?_)
 ·refine go fun b2=>⟨fun _=> ?_,fun e=>absurd e (by decide)⟩
  refine c10t ?_
  exact go (fin h)
 ·obtain⟨ho1,ho2⟩:=run_told gd hfp (by omega) hb hr
  have hon:=ro.len
  have ro:=ro
  refine go fun b2=>⟨fun e=>absurd e (by decide),fun _=> ?_⟩
  refine c11t inferInstance (by omega) fun ia inn ic ich ids hid hopen hin=> ?_
  have hid:=hid
  have hil:=hid.len
  obtain⟨LP,k1,k2,k3⟩:=rp.h
  refine go ?_
  refine lp (fun i:Nat=>[.int .i64 i]) (fun _=>ich::bk b2 29 [.int .i64 t1,.int .i64 t2,.int .i64 t3]::och::ch::P::bk b1 27 (stageC su src sa sn sc ra rn rc)::cs) (fun i=>i≤inn) (fun i=>inn-i) 0 rfl (Imp.refl _) (Nat.zero_le _) fun i hi=> ?_
  refine go ⟨fun c0=>⟨⟨by omega,by simpa using c0⟩,fun id hidm=> ?_⟩,fun c0=> ?_⟩
  ·have hlt:i<inn:=by simpa using c0
   have hid2:id∈ids:=List.mem_of_getElem? hidm
   have hop:=opened_life (hopen id hid2)
   refine c12t ro inferInstance (by omega) ho2 (fun hno=>absurd hno hop) fun f hfm=> ?_
   obtain⟨⟨p1,p2⟩,p3,p4⟩:=progress gd hfp (by omega) hfm
   have hrd:=read_le gd hfp (by omega) hr hfm
   have hcl:=cap_le p3 gd
   have hlk:f.m.script.toNat<ps.length:=by omega
   have rw0:Rw 45 4 (bk b2 29 [.int .i64 t1,.int .i64 t2,.int .i64 t3]::och::ch::P::bk b1 27 (stageC su src sa sn sc ra rn rc)::cs) a n c encPr LP:=⟨k1.cons.cons⟩
   have rw0:=rw0
   refine go fun b4=>⟨fun e=>absurd e (by simp only [decide_eq_true_eq];omega),fun _=>⟨fun e=>absurd e (by simp only [decide_eq_true_eq];omega),fun _=>⟨⟨by omega,by omega⟩,fun x hx=> ?_⟩⟩⟩
   refine rwIxF (e:=encPr) (l:=LP) ⟨by omega,by omega⟩ fun y p0 hy r1 r2 r3=> ?_
   rw [hx]at hy;cases hy
   have r4:=r2 2 (.int .i64 x.1.jumps) rfl
   have r3:=r3
   have hpx:ps.getD f.m.script.toNat PrM.zero=x.1:=by
    rw [←k2,List.getD_eq_getElem?_getD,List.getElem?_map,hx];rfl
   rw [hpx]at p3 p4 hcl
   have hxm:x∈LP:=List.mem_of_getElem? hx
   have hxp:x.1∈ps:=by rw [←k2];exact List.mem_map_of_mem hxm
   obtain⟨_,⟨j1,j2⟩,_,_⟩:=goodP_facts p3
   have hst:=steps_le p3 gd
   refine go ?_
   refine c13t (p:=x.1) ((k3 x hxm).sub fun z hz=> ?_) gd p3 (hfp _ hxp) ?_
   ·simp only [List.flatten_cons,List.mem_append]at hz ⊢
    rcases hz with hz | hz | hz | hz
    ·exact .inr (.inr (.inr (.inr (.inr (.inr (.inl hz))))))
    ·exact .inr (.inr (.inr (.inr (.inr (.inr (.inr (.inl hz)))))))
    ·exact .inr (.inr (.inr (.inr (.inr (.inr (.inr (.inr (.inl hz))))))))
    ·exact .inr (.inr (.inr (.inr (.inr (.inr (.inr (.inr (.inr hz))))))))
   ·refine go ⟨fun e=>absurd e ?_,fun _=>⟨i+1,by rw [w64_succ (by omega)],drp,by omega,by omega⟩⟩
    rw [decide_eq_true_eq]
    unfold capC at p4 hcl
    have g1:w64 (2*(stepsOf su x.1:Int))=((2*stepsOf su x.1:Nat):Int):=by rw [w64_id (by omega)];omega
    have g2:w64 (x.1.jumps+1)=((x.1.jumps.toNat+1:Nat):Int):=by rw [w64_id (by omega)];omega
    rw [g1,g2,←Int.natCast_mul]
    generalize 2*stepsOf su x.1*(x.1.jumps.toNat+1)=T at p4 hcl
    rw [w64_id (n:=(T:Int)) (by omega),w64_id (by omega)]
    omega
  ·exact c10t (go (fin h))))
end
end Go.Proofs.YtbjlfobjngogkaaGreatDoor
namespace Go.Proofs.YtbjlfobjngogkaaGreatDoor
open Go Go.RowKit
set_option maxRecDepth 100000
def wA (W:World):Chunk:=W.heap.toList.zipIdx.map fun p=>(p.2,p.1)
theorem wA_mem {W:World} {i:Nat} {o:Obj}:(i,o)∈wA W↔W.heap[i]? =some o:=by
 unfold wA
 simp only [List.mem_map,Prod.mk.injEq]
 constructor
 ·rintro⟨⟨o',i'⟩,h1,rfl,rfl⟩
  have:=List.mem_zipIdx_iff_getElem?.1 h1
  simpa using this
 ·intro h
  exact⟨(o,i),List.mem_zipIdx_iff_getElem?.2 (by simpa using h),rfl,rfl⟩
theorem wA_hs (W:World):Hs W W [wA W]:=by
 refine⟨rfl,rfl,rfl,Nat.le_refl _,fun x hx=> ?_,?_⟩
 ·simp only [List.flatten_cons,List.flatten_nil,List.append_nil]at hx
  exact wA_mem.1 hx
 ·simp only [List.flatten_cons,List.flatten_nil,List.append_nil]
  have e:(wA W).map Prod.fst=List.range' 0 W.heap.toList.length:=by
   unfold wA
   rw [List.map_map]
   exact List.zipIdx_map_snd ..
  rw [e]
  exact List.nodup_range'
theorem wA_below {W w':World} (h:Hs W w' [wA W]):Below W.heap.size W w':=by
 refine⟨h.os,h.tape,h.out,h.size,fun k hk=> ?_⟩
 have h1:W.heap[k]? =some W.heap[k]:=Array.getElem?_eq_getElem hk
 have h2:=h.holds (k,W.heap[k]) (by simp only [List.flatten_cons,List.flatten_nil,List.append_nil];exact wA_mem.2 h1)
 rw [h1];exact h2
structure BulkL {H:Type} (β:DataW H→Nat):Prop where
 one:∀d,1≤β d
 str:∀l,l.length≤β (.lit (.string l))
 agg:∀l:List (DataW H),(l.map β).sum≤β (.agg l)
 sl:∀l s:List (DataW H),(l.map β).sum+1≤β (.slice l s)
section
variable {H:Type} {enc:TypeId×Value→H} {W:World} {β:DataW H→Nat}
def Rdr (enc:TypeId×Value→H) (W:World) (β:DataW H→Nat) (t:TypeId) (V:List Value→Nat→Prop):Prop:=
 ∀fuel cs x,DataW.trod enc Tryz.prog W 0 (fun _=>true) true fuel t cs=some x→β x.1≤1048576→V cs (β x.1)
theorem rdr_int {t:TypeId} (ht:Tryz.prog.underlying t=some (.int .i64)) (B:BulkL β):Rdr enc W β t fun cs k=>∃n:Int,cs=[.int .i64 n]∧n≤never∧1≤k:=fun fuel cs x h _=>by
 obtain⟨n,h1,h2,h3⟩:=DataW.trod_int ht h
 refine⟨n,h1,?_,B.one _⟩
 simp only [Lit.wf,IntKind.max,IntKind.signed,IntKind.bits,Bool.and_eq_true,decide_eq_true_eq]at h3
 unfold never
 have:=h3.2
 simp at this
 omega
theorem rdr_bool {t:TypeId} (ht:Tryz.prog.underlying t=some .bool) (B:BulkL β):Rdr enc W β t fun cs k=>∃b:Bool,cs=[.bool b]∧1≤k:=fun fuel cs x h _=>by
 obtain⟨n,h1,h2⟩:=DataW.trod_bool ht h
 exact⟨n,h1,B.one _⟩
theorem rdr_str {t:TypeId} (ht:Tryz.prog.underlying t=some .string) (B:BulkL β):Rdr enc W β t fun cs k=>∃s:ByteArray,cs=[.string s]∧s.size≤k∧1≤k:=fun fuel cs x h _=>by
 obtain⟨s,h1,h2,h3⟩:=DataW.trod_string ht h
 refine⟨s,h1,?_,B.one _⟩
 rw [h2]
 have:=B.str s.data.toList
 simpa using this
theorem sum_range_map {β:Type} (f:β→Nat):∀l:List β,(l.map f).sum=((List.range l.length).map fun i=>(l[i]?.map f).getD 0).sum:=fun l=>by
 congr 1
 apply List.ext_getElem?
 intro i
 by_cases h:i<l.length
 ·simp [h]
 ·simp [h]
theorem sum_le_of {f g:Nat→Nat}:∀n,(∀i,i<n→f i≤g i)→((List.range n).map f).sum≤((List.range n).map g).sum
 | 0,_=>by simp
 | n+1,h=>by
  rw [List.range_succ,List.map_append,List.map_append,List.sum_append,List.sum_append]
  have:=sum_le_of n fun i hi=>h i (by omega)
  have:=h n (by omega)
  simp;omega
theorem le_sum_of {f:Nat→Nat}:∀n i,i<n→f i≤((List.range n).map f).sum
 | 0,_,h=>by omega
 | n+1,i,h=>by
  rw [List.range_succ,List.map_append,List.sum_append]
  by_cases e:i=n
  ·subst e;simp
  ·have:=le_sum_of (f:=f) n i (by omega)
   omega
theorem rdr_slice {α:Type} {t e:TypeId} {sz:Nat} {en:Enc α sz} {Ok:α→Prop} {wt:α→Nat} (ht:Tryz.prog.underlying t=some (.slice e)) (he:Tryz.prog.cellsOf e=sz) (B:BulkL β)
  (hel:Rdr enc W β e fun cs k=>∃x,cs=en.f x∧Ok x∧1≤wt x∧wt x≤k):
  Rdr enc W β t fun cs k=>∃a n c L,cs=[.slice a n c]∧RdS [wA W] en a n c L∧(∀y∈L,Ok y)∧(L.map wt).sum+1≤k∧n≤(L.map wt).sum:=fun fuel cs x h hk=>by
 have hpos:=en.pos
 rcases Deep.open_slice ht h with ⟨rfl,rfl⟩ | ⟨a,len,cap,m,q,D,Pl,rfl,h0,hlc,hcm,hm,rfl,hx⟩
 ·exact⟨none,0,0,[],rfl,rds_nil,by simp,by simpa using B.one _,by simp⟩
 ·have hml:len≤m:=by rw [hm];split <;>omega
  have hb:=B.sl ((List.range len).map D) ((List.range (m-len)).map fun j=>D (len+j))
  simp only [List.map_map]at hb
  have hD:∀i,i<len→β (D i)≤1048576:=fun i hi=>by
   have:=le_sum_of (f:=β ∘ D) len i hi
   simp only [Function.comp]at this hb
   simp only at hk
   omega
  have hF:∀i,i<len→∃y:α,Ok y∧1≤wt y∧wt y≤β (D i)∧∀j u,(en.f y)[j]? =some u→W.cell? (a.add (i*sz+j))=some u:=fun i hi=>by
   obtain⟨cs',h1,h2⟩:=hx i (by omega)
   obtain⟨y,rfl,h3,h4,h5⟩:=hel _ _ _ h2 (hD i hi)
   refine⟨y,h3,h4,h5,fun j u hu=> ?_⟩
   obtain⟨_,h6,h7⟩:=World.cells?_some h1
   have hj:=lt_of_get hu
   rw [en.len]at hj
   have:=h7 j (by rw [he];exact hj)
   rw [Deep.add_add,he,hu]at this
   exact this
  let F:Nat→Option α:=fun i=>if hi:i<len then some (Classical.choose (hF i hi))else none
  let L:List α:=(List.range len).filterMap F
  have hL:∀i,i<len→∃y,L[i]? =some y∧Ok y∧1≤wt y∧wt y≤β (D i)∧∀j u,(en.f y)[j]? =some u→W.cell? (a.add (i*sz+j))=some u:=by
   intro i hi
   have hs:=Classical.choose_spec (hF i hi)
   refine⟨_,?_,hs⟩
   have e2:∀n,n≤len→((List.range n).filterMap F).length=n:=by
    intro n
    induction n with
    | zero=>intro _;rfl
    | succ n ih=>
     intro hn
     rw [List.range_succ,List.filterMap_append,List.length_append,ih (by omega)]
     simp [F,show n<len by omega]
   have e3:L=(List.range i).filterMap F++(List.range' i (len-i)).filterMap F:=by
    show(List.range len).filterMap F=_
    rw [←List.filterMap_append]
    congr 1
    rw [List.range_eq_range',List.range_eq_range',show len=i+(len-i)by omega,←List.range'_append]
    simp
   rw [e3,List.getElem?_append_right (by rw [e2 i (by omega)];omega),e2 i (by omega),Nat.sub_self]
   rw [show len-i=(len-i-1)+1 by omega,List.range'_succ,List.filterMap_cons]
   simp [F,hi]
  have hLl:L.length=len:=by
   have e2:∀n,n≤len→((List.range n).filterMap F).length=n:=by
    intro n
    induction n with
    | zero=>intro _;rfl
    | succ n ih=>
     intro hn
     rw [List.range_succ,List.filterMap_append,List.length_append,ih (by omega)]
     simp [F,show n<len by omega]
   exact e2 len (Nat.le_refl _)
  refine⟨some a,len,cap,L,rfl,⟨hLl.symm,hlc,fun hn=> ?_⟩,fun y hy=> ?_,?_,?_⟩
  ·obtain⟨y0,g1,_,_,_,g2⟩:=hL 0 hn
   have hy0:(en.f y0)[0]? =some ((en.f y0)[0]'(by rw [en.len];omega)):=List.getElem?_eq_getElem _
   have g3:=g2 0 _ hy0
   rw [Nat.zero_mul,Nat.zero_add,show a.add 0=a from rfl]at g3
   unfold World.cell? at g3
   split at g3
   ·rename_i c T z hc
    split at g3
    ·cases g3
    ·rename_i hsp
     have ha:a=ad a.block a.off:=by
      obtain⟨b,o,sp⟩:=a
      simp at hsp
      subst hsp;rfl
     refine⟨a.block,a.off,T,c.toList,by rw [←ha],⟨z,by simpa using wA_mem.2 hc⟩,fun j u hu=> ?_⟩
     have hj:=lt_of_get hu
     rw [en.flat_len,hLl]at hj
     have hi:j / sz<len:=Nat.div_lt_of_lt_mul (by rw [Nat.mul_comm];exact hj)
     obtain⟨y,k1,_,_,_,k2⟩:=hL (j / sz) hi
     have ej:j=j / sz*sz+j % sz:=by rw [Nat.mul_comm];exact(Nat.div_add_mod j sz).symm
     have hr:j % sz<sz:=Nat.mod_lt _ hpos
     have k3:=en.flat_get L (j / sz) (j % sz) y k1 hr
     rw [←ej,hu]at k3
     have k4:=k2 _ _ k3.symm
     rw [←ej,ha]at k4
     rw [show(ad a.block a.off).add j=ad a.block (a.off+j)from by rw [add_ad]]at k4
     simpa [World.cell?,hc]using k4
   ·cases g3
  ·obtain⟨i,hi⟩:=List.getElem?_of_mem hy
   obtain⟨y',k1,k2,_⟩:=hL i (by have:=lt_of_get hi;omega)
   rw [hi]at k1;cases k1;exact k2
  ·have:(L.map wt).sum≤((List.range len).map (β ∘ D)).sum:=by
    rw [sum_range_map,hLl]
    refine sum_le_of _ fun i hi=> ?_
    obtain⟨y',k1,k2,_,k3,_⟩:=hL i hi
    rw [k1];simpa using k3
   simp only at hk ⊢
   omega
  ·rw [sum_range_map,hLl]
   have:=sum_le_of (f:=fun _=>1) (g:=fun i=>(L[i]?.map wt).getD 0) len fun i hi=>by
    obtain⟨y',k1,_,k3,_⟩:=hL i hi
    rw [k1];simpa using k3
   rw [List.map_const',List.sum_replicate_nat,List.length_range]at this
   omega
end
end Go.Proofs.YtbjlfobjngogkaaGreatDoor
namespace Go.Proofs.YtbjlfobjngogkaaGreatDoor
open Go
set_option maxRecDepth 100000
instance sfA:StrF 146 [(true,9,0),(true,3,1)]:=⟨by kernel_rfl⟩
instance sfO:StrF 97 [(true,3,0),(true,9,1),(true,2,2),(true,3,3),(true,95,4),(true,3,5),(true,3,6)]:=⟨by kernel_rfl⟩
instance sfP:StrF 45 [(true,9,0),(true,2,1),(true,3,2),(true,43,3)]:=⟨by kernel_rfl⟩
instance sfF:StrF 85 [(true,3,0),(true,9,1),(true,4,2)]:=⟨by kernel_rfl⟩
instance sfR:StrF 87 [(true,3,0),(true,4,1),(true,4,2),(true,3,3)]:=⟨by kernel_rfl⟩
instance sfQ:StrF 73 [(true,2,0),(true,34,1),(true,70,2),(true,71,3),(true,2,4),(true,4,5)]:=⟨by kernel_rfl⟩
instance sfS:StrF 23 [(true,3,0),(true,3,1),(true,3,2),(true,3,3),(true,3,4),(true,3,5)]:=⟨by kernel_rfl⟩
instance sfT:StrF 27 [(true,23,0),(true,9,6),(true,24,7),(true,25,8)]:=⟨by kernel_rfl⟩
theorem co2:Tryz.prog.cellsOf 2=1:=by kernel_rfl
theorem co3:Tryz.prog.cellsOf 3=1:=by kernel_rfl
theorem co4:Tryz.prog.cellsOf 4=1:=by kernel_rfl
theorem co9:Tryz.prog.cellsOf 9=1:=by kernel_rfl
theorem co146:Tryz.prog.cellsOf 146=2:=by kernel_rfl
theorem co97:Tryz.prog.cellsOf 97=7:=by kernel_rfl
theorem co45:Tryz.prog.cellsOf 45=4:=by kernel_rfl
theorem co85:Tryz.prog.cellsOf 85=3:=by kernel_rfl
theorem co87:Tryz.prog.cellsOf 87=4:=by kernel_rfl
theorem co73:Tryz.prog.cellsOf 73=6:=by kernel_rfl
theorem co23:Tryz.prog.cellsOf 23=6:=by kernel_rfl
theorem co27:Tryz.prog.cellsOf 27=9:=by kernel_rfl
theorem co95:Tryz.prog.cellsOf 95=1:=by kernel_rfl
theorem co43:Tryz.prog.cellsOf 43=1:=by kernel_rfl
theorem co24:Tryz.prog.cellsOf 24=1:=by kernel_rfl
theorem co25:Tryz.prog.cellsOf 25=1:=by kernel_rfl
theorem co34:Tryz.prog.cellsOf 34=1:=by kernel_rfl
theorem co70:Tryz.prog.cellsOf 70=1:=by kernel_rfl
theorem co71:Tryz.prog.cellsOf 71=1:=by kernel_rfl
theorem fsum_mono {α:Type} {f g:α→Nat}:∀l:List α,(∀x∈l,f x≤g x)→(l.map f).sum≤(l.map g).sum
 | [],_=>by simp
 | x::l,h=>by
  have:=fsum_mono l fun y hy=>h y (List.mem_cons_of_mem _ hy)
  have:=h x List.mem_cons_self
  simp only [List.map_cons,List.sum_cons];omega
theorem fsum_const {α:Type} (c:Nat) (l:List α):(l.map fun _=>c).sum=c*l.length:=by
 induction l with
 | nil=>simp
 | cons x l ih=>simp only [List.map_cons,List.sum_cons,ih,List.length_cons,Nat.mul_add];omega
theorem le_sum_mem {l:List Nat} {x:Nat} (h:x∈l):x≤l.sum:=by
 induction l with
 | nil=>cases h
 | cons y l ih=>
  simp only [List.sum_cons]
  rcases List.mem_cons.1 h with rfl | h
  ·omega
  ·have:=ih h;omega
section
variable {H:Type} {enc:TypeId×Value→H} {W:World} {β:DataW H→Nat}
theorem struct_rdr {t:TypeId} {ks:List (Bool×Nat×Nat)} (q:StrF t ks) (B:BulkL β) {fuel:Nat} {cs:List Value} {x:DataW H×List MemPlace}
  (h:DataW.trod enc Tryz.prog W 0 (fun _=>true) true fuel t cs=some x) (hk:β x.1≤1048576):
  cs.length=Tryz.prog.cellsOf t∧∃bs:List Nat,bs.length=ks.length∧bs.sum≤β x.1∧
   ∀(i:Nat) (b:Bool) (ty off:Nat) (V:List Value→Nat→Prop),ks[i]? =some (b,ty,off)→Rdr enc W β ty V→V ((cs.drop off).take (Tryz.prog.cellsOf ty)) (bs.getD i 0):=by
 obtain⟨h1,h2⟩:=strF_facts q
 obtain⟨xs,n,_,hx,hl,hn,hf⟩:=DataW.trod_struct h1 h
 have hagg:=B.agg (xs.map (·.1))
 rw [hx]at hk ⊢
 refine⟨hl,(xs.map (·.1)).map β,?_,hagg,fun i b ty off V hi hV=> ?_⟩
 ·rw [List.length_map,List.length_map,hn,←h2];simp
 ·rw [←h2,List.getElem?_map,Option.map_eq_some_iff]at hi
  obtain⟨f,hf1,hf2⟩:=hi
  have hf3:(Tryz.prog.fieldsOf t)[i]? =some f:=by simpa using hf1
  have h3:=hf i f hf3
  unfold fKey at hf2
  simp only [Prod.mk.injEq]at hf2
  obtain⟨_,rfl,rfl⟩:=hf2
  have hlt:i<xs.length:=by rw [hn];exact(Array.getElem?_eq_some_iff.1 hf3).1
  have h4:xs[i]? =some xs[i]:=List.getElem?_eq_getElem hlt
  rw [h4]at h3
  have h5:β (xs[i]).1≤((xs.map (·.1)).map β).sum:=le_sum_mem (List.mem_map_of_mem (List.mem_map_of_mem (List.getElem_mem hlt)))
  have h6:=hV _ _ _ h3 (by simp only at hk;omega)
  simpa [hlt]using h6
theorem rdr_arm (B:BulkL β):Rdr enc W β 146 fun cs k=>∃x:ArmM,cs=encArm.f x∧x.pat.size≤1000000000000∧1≤(fun _:ArmM=>1) x∧(fun _:ArmM=>1) x≤k:=fun fuel cs x h hk=>by
 obtain⟨hl,bs,hb,hs,hf⟩:=struct_rdr sfA B h hk
 have h0:=hf 0 _ _ _ _ rfl (rdr_str Tryz.underlying9 B)
 have h1:=hf 1 _ _ _ _ rfl (rdr_int Tryz.underlying3 B)
 rw [co146]at hl
 rw [co9]at h0;rw [co3]at h1
 match cs,hl with
 | [c0,c1],_=>
 match bs,hb with
 | [b0,b1],_=>
 simp only [List.getD_cons_zero,List.getD_cons_succ,List.sum_cons,List.sum_nil]at h0 h1 hs
 obtain⟨s,e0,k0,l0⟩:=h0
 obtain⟨n,e1,_⟩:=h1
 cases e0;cases e1
 exact⟨⟨s,n⟩,rfl,by simp only;omega,Nat.le_refl _,by show 1≤β x.1;omega⟩
theorem rdr_op (B:BulkL β):Rdr enc W β 97 fun cs k=>∃x:OpV,cs=encOp.f x∧(RdS [wA W] encArm x.2.1 x.2.2.1 x.2.2.2 x.1.arms∧x.1.Fit)∧1≤(fun _:OpV=>1) x∧(fun _:OpV=>1) x≤k:=fun fuel cs x h hk=>by
 obtain⟨hl,bs,hb,hs,hf⟩:=struct_rdr sfO B h hk
 have h0:=hf 0 _ _ _ _ rfl (rdr_int Tryz.underlying3 B)
 have h1:=hf 1 _ _ _ _ rfl (rdr_str Tryz.underlying9 B)
 have h2:=hf 2 _ _ _ _ rfl (rdr_int Tryz.underlying2 B)
 have h3:=hf 3 _ _ _ _ rfl (rdr_int Tryz.underlying3 B)
 have h4:=hf 4 _ _ _ _ rfl (rdr_slice (en:=encArm) Tryz.underlying95 co146 B (rdr_arm B))
 have h5:=hf 5 _ _ _ _ rfl (rdr_int Tryz.underlying3 B)
 have h6:=hf 6 _ _ _ _ rfl (rdr_int Tryz.underlying3 B)
 rw [co97]at hl
 rw [co9]at h1;rw [co3]at h0 h3 h5 h6;rw [co2]at h2;rw [co95]at h4
 match cs,hl with
 | [c0,c1,c2,c3,c4,c5,c6],_=>
 match bs,hb with
 | [b0,b1,b2,b3,b4,b5,b6],_=>
 simp only [List.getD_cons_zero,List.getD_cons_succ,List.sum_cons,List.sum_nil]at h0 h1 h2 h3 h4 h5 h6 hs
 obtain⟨n0,e0,_,l0⟩:=h0
 obtain⟨s,e1,k1,l1⟩:=h1
 obtain⟨n2,e2,_⟩:=h2
 obtain⟨n3,e3,_⟩:=h3
 obtain⟨a,n,c,L,e4,r4,o4,w4,v4⟩:=h4
 obtain⟨n5,e5,_⟩:=h5
 obtain⟨n6,e6,_⟩:=h6
 cases e0;cases e1;cases e2;cases e3;cases e4;cases e5;cases e6
 have:=r4.len
 exact⟨(⟨n0,s,n2,n3,L,n5,n6⟩,a,n,c),rfl,⟨r4,by simp only;omega,by simp only;omega,fun m hm=>o4 m hm⟩,Nat.le_refl _,by show 1≤β x.1;omega⟩
theorem rdr_prog (B:BulkL β):Rdr enc W β 45 fun cs k=>∃x:PrV,cs=encPr.f x∧(PrR [wA W] (prCells x.1 x.2.1 x.2.2.1 x.2.2.2) x.1∧x.1.Fit)∧1≤(fun _:PrV=>1) x∧(fun _:PrV=>1) x≤k:=fun fuel cs x h hk=>by
 obtain⟨hl,bs,hb,hs,hf⟩:=struct_rdr sfP B h hk
 have h0:=hf 0 _ _ _ _ rfl (rdr_str Tryz.underlying9 B)
 have h1:=hf 1 _ _ _ _ rfl (rdr_int Tryz.underlying2 B)
 have h2:=hf 2 _ _ _ _ rfl (rdr_int Tryz.underlying3 B)
 have h3:=hf 3 _ _ _ _ rfl (rdr_slice (en:=encOp) Tryz.underlying43 co97 B (rdr_op B))
 rw [co45]at hl
 rw [co9]at h0;rw [co2]at h1;rw [co3]at h2;rw [co43]at h3
 match cs,hl with
 | [c0,c1,c2,c3],_=>
 match bs,hb with
 | [b0,b1,b2,b3],_=>
 simp only [List.getD_cons_zero,List.getD_cons_succ,List.sum_cons,List.sum_nil]at h0 h1 h2 h3 hs
 obtain⟨s,e0,k0,l0⟩:=h0
 obtain⟨n1,e1,_⟩:=h1
 obtain⟨n2,e2,_⟩:=h2
 obtain⟨a,n,c,L,e3,r3,o3,w3,v3⟩:=h3
 cases e0;cases e1;cases e2;cases e3
 have:=r3.len
 refine⟨(⟨s,n1,n2,L.map Prod.fst⟩,a,n,c),rfl,⟨⟨a,n,c,L,rfl,r3,rfl,fun y hy=>(o3 y hy).1⟩,by simp only;omega,by simp only [List.length_map];omega,fun m hm=> ?_⟩,Nat.le_refl _,by show 1≤β x.1;omega⟩
 obtain⟨y,hy,rfl⟩:=List.mem_map.1 hm
 exact(o3 y hy).2
theorem rdr_off (B:BulkL β):Rdr enc W β 85 fun cs k=>∃x:OfferM,cs=encOff.f x∧True∧1≤(fun x:OfferM=>x.bytes.size+1) x∧(fun x:OfferM=>x.bytes.size+1) x≤k:=fun fuel cs x h hk=>by
 obtain⟨hl,bs,hb,hs,hf⟩:=struct_rdr sfF B h hk
 have h0:=hf 0 _ _ _ _ rfl (rdr_int Tryz.underlying3 B)
 have h1:=hf 1 _ _ _ _ rfl (rdr_str Tryz.underlying9 B)
 have h2:=hf 2 _ _ _ _ rfl (rdr_bool Tryz.underlying4 B)
 rw [co85]at hl
 rw [co3]at h0;rw [co9]at h1;rw [co4]at h2
 match cs,hl with
 | [c0,c1,c2],_=>
 match bs,hb with
 | [b0,b1,b2],_=>
 simp only [List.getD_cons_zero,List.getD_cons_succ,List.sum_cons,List.sum_nil]at h0 h1 h2 hs
 obtain⟨n0,e0,_,l0⟩:=h0
 obtain⟨s,e1,k1,l1⟩:=h1
 obtain⟨n2,e2,_⟩:=h2
 cases e0;cases e1;cases e2
 exact⟨⟨n0,s,n2⟩,rfl,trivial,by simp only;omega,by simp only;omega⟩
theorem rdr_rep (B:BulkL β):Rdr enc W β 87 fun cs k=>∃x:ReportM,cs=encRep.f x∧True∧1≤(fun _:ReportM=>3) x∧(fun _:ReportM=>3) x≤k:=fun fuel cs x h hk=>by
 obtain⟨hl,bs,hb,hs,hf⟩:=struct_rdr sfR B h hk
 have h0:=hf 0 _ _ _ _ rfl (rdr_int Tryz.underlying3 B)
 have h1:=hf 1 _ _ _ _ rfl (rdr_bool Tryz.underlying4 B)
 have h2:=hf 2 _ _ _ _ rfl (rdr_bool Tryz.underlying4 B)
 have h3:=hf 3 _ _ _ _ rfl (rdr_int Tryz.underlying3 B)
 rw [co87]at hl
 rw [co3]at h0 h3;rw [co4]at h1 h2
 match cs,hl with
 | [c0,c1,c2,c3],_=>
 match bs,hb with
 | [b0,b1,b2,b3],_=>
 simp only [List.getD_cons_zero,List.getD_cons_succ,List.sum_cons,List.sum_nil]at h0 h1 h2 h3 hs
 obtain⟨n0,e0,_,l0⟩:=h0
 obtain⟨n1,e1,_⟩:=h1
 obtain⟨n2,e2,_⟩:=h2
 obtain⟨n3,e3,_⟩:=h3
 cases e0;cases e1;cases e2;cases e3
 exact⟨⟨n0,n1,n2,n3⟩,rfl,trivial,by simp only;omega,by simp only;omega⟩
theorem rdr_i64 (B:BulkL β):Rdr enc W β 3 fun cs k=>∃x:Int,cs=encI64.f x∧True∧1≤(fun _:Int=>1) x∧(fun _:Int=>1) x≤k:=fun fuel cs x h hk=>by
 obtain⟨n,e,_,l⟩:=rdr_int (enc:=enc) (W:=W) Tryz.underlying3 B fuel cs x h hk
 exact⟨n,e,trivial,Nat.le_refl _,l⟩
theorem rdr_round (B:BulkL β):Rdr enc W β 73 fun cs k=>∃x:RoV,cs=encRo.f x∧x.Ok (wA W)∧1≤(fun x:RoV=>rBulk x.m+offSum x.l2) x∧(fun x:RoV=>rBulk x.m+offSum x.l2) x≤k:=fun fuel cs x h hk=>by
 obtain⟨hl,bs,hb,hs,hf⟩:=struct_rdr sfQ B h hk
 have h0:=hf 0 _ _ _ _ rfl (rdr_int Tryz.underlying2 B)
 have h1:=hf 1 _ _ _ _ rfl (rdr_slice (en:=encI64) Tryz.underlying34 co3 B (rdr_i64 B))
 have h2:=hf 2 _ _ _ _ rfl (rdr_slice (en:=encOff) Tryz.underlying70 co85 B (rdr_off B))
 have h3:=hf 3 _ _ _ _ rfl (rdr_slice (en:=encRep) Tryz.underlying71 co87 B (rdr_rep B))
 have h4:=hf 4 _ _ _ _ rfl (rdr_int Tryz.underlying2 B)
 have h5:=hf 5 _ _ _ _ rfl (rdr_bool Tryz.underlying4 B)
 rw [co73]at hl
 rw [co2]at h0 h4;rw [co34]at h1;rw [co70]at h2;rw [co71]at h3;rw [co4]at h5
 match cs,hl with
 | [c0,c1,c2,c3,c4,c5],_=>
 match bs,hb with
 | [b0,b1,b2,b3,b4,b5],_=>
 simp only [List.getD_cons_zero,List.getD_cons_succ,List.sum_cons,List.sum_nil]at h0 h1 h2 h3 h4 h5 hs
 obtain⟨n0,e0,m0,l0⟩:=h0
 obtain⟨a1,n1,c1,L1,e1,r1,o1,w1,v1⟩:=h1
 obtain⟨a2,n2,c2,L2,e2,r2,o2,w2,v2⟩:=h2
 obtain⟨a3,n3,c3,L3,e3,r3,o3,w3,v3⟩:=h3
 obtain⟨n4,e4,m4,l4⟩:=h4
 obtain⟨n5,e5,l5⟩:=h5
 cases e0;cases e1;cases e2;cases e3;cases e4;cases e5
 rw [fsum_const]at w1 w3
 have hof:offSum L2≤(L2.map fun x:OfferM=>x.bytes.size+1).sum:=fsum_mono L2 fun y _=>by omega
 have g1:=r1.len
 have g2:=r2.len
 have g3:=r3.len
 refine⟨⟨n0,a1,n1,c1,a2,n2,c2,a3,n3,c3,n4,n5,L1,L2,L3⟩,rfl,⟨⟨r1⟩,⟨r2⟩,⟨r3⟩,⟨m0,m4⟩,?_⟩,?_,?_⟩
 ·simp only;rw [fsum_const]at v1 v3;omega
 ·simp only [rBulk];omega
 ·simp only [rBulk,RoV.m];omega
theorem rdr_setup (B:BulkL β):Rdr enc W β 23 fun cs k=>∃su:Setup,cs=suC su:=fun fuel cs x h hk=>by
 obtain⟨hl,bs,hb,hs,hf⟩:=struct_rdr sfS B h hk
 have h0:=hf 0 _ _ _ _ rfl (rdr_int Tryz.underlying3 B)
 have h1:=hf 1 _ _ _ _ rfl (rdr_int Tryz.underlying3 B)
 have h2:=hf 2 _ _ _ _ rfl (rdr_int Tryz.underlying3 B)
 have h3:=hf 3 _ _ _ _ rfl (rdr_int Tryz.underlying3 B)
 have h4:=hf 4 _ _ _ _ rfl (rdr_int Tryz.underlying3 B)
 have h5:=hf 5 _ _ _ _ rfl (rdr_int Tryz.underlying3 B)
 rw [co23]at hl
 rw [co3]at h0 h1 h2 h3 h4 h5
 match cs,hl with
 | [c0,c1,c2,c3,c4,c5],_=>
 obtain⟨n0,e0,_⟩:=h0
 obtain⟨n1,e1,_⟩:=h1
 obtain⟨n2,e2,_⟩:=h2
 obtain⟨n3,e3,_⟩:=h3
 obtain⟨n4,e4,_⟩:=h4
 obtain⟨n5,e5,_⟩:=h5
 cases e0;cases e1;cases e2;cases e3;cases e4;cases e5
 exact⟨⟨n0,n1,n2,n3,n4,n5⟩,rfl⟩
structure StageR (A:Chunk) (cs:List Value):Prop where
 h:∃su src sa sn sc ra rn rc ps0 R,cs=stageC su src sa sn sc ra rn rc∧PrsR [A] sa sn sc ps0∧(∀p∈ps0,p.Fit)∧sn≤1000000000∧
  Vie 73 6 ra rn rc encRo R A∧(∀y∈R,y.Ok A)∧rn≤1000000000∧roSum R≤1000000000000∧
  ((R.map RoV.m).map rBulk).sum≤1000000000∧((R.map RoV.m).map fun r=>r.reports.length).sum≤4000000
theorem rdr_stage (B:BulkL β):Rdr enc W β 27 fun cs _=>StageR (wA W) cs:=fun fuel cs x h hk=>by
 obtain⟨hl,bs,hb,hs,hf⟩:=struct_rdr sfT B h hk
 have h0:=hf 0 _ _ _ _ rfl (rdr_setup B)
 have h1:=hf 1 _ _ _ _ rfl (rdr_str Tryz.underlying9 B)
 have h2:=hf 2 _ _ _ _ rfl (rdr_slice (en:=encPr) Tryz.underlying24 co45 B (rdr_prog B))
 have h3:=hf 3 _ _ _ _ rfl (rdr_slice (en:=encRo) Tryz.underlying25 co73 B (rdr_round B))
 rw [co27]at hl
 rw [co23]at h0;rw [co9]at h1;rw [co24]at h2;rw [co25]at h3
 match cs,hl with
 | [d0,d1,d2,d3,d4,d5,d6,d7,d8],_=>
 match bs,hb with
 | [b0,b1,b2,b3],_=>
 simp only [List.getD_cons_zero,List.getD_cons_succ,List.sum_cons,List.sum_nil]at h0 h1 h2 h3 hs
 obtain⟨su,e0⟩:=h0
 obtain⟨src,e1,_⟩:=h1
 obtain⟨a2,n2,c2,L2,e2,r2,o2,w2,v2⟩:=h2
 obtain⟨a3,n3,c3,L3,e3,r3,o3,w3,v3⟩:=h3
 cases e0;cases e1;cases e2;cases e3
 have g1:((L3.map RoV.m).map rBulk).sum≤(L3.map fun x:RoV=>rBulk x.m+offSum x.l2).sum:=by
  rw [List.map_map];exact fsum_mono L3 fun y _=>by simp only [Function.comp];omega
 have g2:roSum L3≤(L3.map fun x:RoV=>rBulk x.m+offSum x.l2).sum:=fsum_mono L3 fun y _=>by omega
 have g3:((L3.map RoV.m).map fun r=>r.reports.length).sum≤(L3.map fun x:RoV=>rBulk x.m+offSum x.l2).sum:=by
  rw [List.map_map];exact fsum_mono L3 fun y _=>by simp only [Function.comp,rBulk];omega
 refine⟨su,src,a2,n2,c2,a3,n3,c3,L2.map Prod.fst,L3,rfl,⟨L2,r2,rfl,fun y hy=>(o2 y hy).1⟩,fun p hp=> ?_,by omega,⟨r3⟩,o3,by omega,by omega,by omega,by omega⟩
 obtain⟨y,hy,rfl⟩:=List.mem_map.1 hp
 exact(o2 y hy).2
end
end Go.Proofs.YtbjlfobjngogkaaGreatDoor
