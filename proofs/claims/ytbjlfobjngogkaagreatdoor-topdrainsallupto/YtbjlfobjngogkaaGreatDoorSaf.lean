/- Part of a proof over this seat: contracts of functions and plain laws, joined by program out of smaller texts. Conditions: those that each theorem states. -/
import Derived.Test.YtbjlfobjngogkaaGreatDoorSae
import Derived.Deep.Slices
import Derived.Carry
namespace Go.Proofs.YtbjlfobjngogkaaGreatDoor
section
variable {su:Setup} {ps:List PrM} {acc:List EvM} {e:Eng}
theorem zmo (ho:e.Ok) (h:PI su ps (acc++e.out) e) (k:Nat):PI su ps (acc++(e.step k).2.out) (e.step k).2:=by
 unfold Eng.step;cases hk:e.seat k with
 | none=>exact h
 | some x=>
  dsimp only;obtain⟨d1,d2,d4⟩:=ho.dO k x hk;obtain⟨s1,s2,_⟩:=h.st k x hk;cases hst:x.d.step e.clock with
  | none=>
   dsimp only;rw [if_pos s1];exact h
  | some y=>
   obtain⟨y,d'⟩:=y;dsimp only;have hl:=zch hst;split
   ·rename_i h0;have hpp:=zxl d1 s2 (by have:=ho.c1;omega) hst h0;show PI su ps (acc++(e.out++[zar x.id y])) _;rw [←JO];exact(h.seatEv ho (y:={x with d:=d'}) (v:=zar x.id y) hk rfl h0 hpp.2 hl.2.1 rfl (.inr ⟨rfl,hpp.1⟩)).same rfl rfl (Int.le_refl _) λ_ _ hz=>hz
   ·show PI su ps (acc++(e.out++[zar x.id y])) _;rw [←JO];exact h.last ho (v:=zar x.id y) hk rfl rfl
theorem zhq (e:Eng) (k:Nat):(e.settle k).s=e.s∧(e.settle k).scripts=e.scripts∧(e.settle k).slots=e.slots:=by unfold Eng.settle;cases e.seat k <;>exact⟨rfl,rfl,rfl⟩
theorem ze0 (h:PI su ps (acc++e.out) e) (k:Nat):PI su ps (acc++(e.settle k).out) (e.settle k):=by
 obtain⟨f1,f2,f3⟩:=zhq e k;rw [zbc];exact h.same f1 f2 (by rw [f3];exact Int.le_refl _) (λi x hx=>by rw [za0]at hx;exact hx) (by rw [f3];exact id)
theorem z1j (ho:e.Ok) (h:PI su ps (acc++e.out) e) (n:Int):PI su ps (acc++(e.open n).out) (e.open n):=by
 unfold Eng.open;split
 ·show PI su ps (acc++(e.out++[zbz e.slots.skipped n (e.refused n)])) _;rw [←JO];refine(h.tell (x:=zbz e.slots.skipped n (e.refused n)) (show(3:Int)≠2 by decide) (show(3:Int)≠4 by decide) (show(3:Int)≠8 by decide)).same rfl rfl ?_ (λ_ _ hz=>hz) ?_
  ·show e.slots.next≤e.slots.skip.next
   unfold Slots.skip;split
   ·exact Int.le_refl _
   ·simp only;omega
  ·show _→e.slots.skip.next≤4096
   unfold Slots.skip;split
   ·exact id
   ·simp only;omega
 ·rename_i hr;have hr:=Decidable.not_not.1 hr;obtain⟨r1,r2,r3,r4,r5⟩:=zb6 hr;have hok:=zg2 ho hr;obtain⟨f1,f2⟩:=zcw r5;rw [ho.l2]at f1;refine ze0 (acc:=acc) (e:={e with slots:=e.slots.open,seats:=e.seats.set e.slots.first (some ⟨e.slots.next,Dia.new e.s (e.scripts.getD n.toNat PrM.zero) e.clock,[],false⟩),out:=e.out++[za5 e.slots.next n]}) ?_ _;show PI su ps (acc++(e.out++[za5 e.slots.next n])) _;rw [←JO];have fresh:zam (acc++e.out) e.slots.next=none:=by
   cases hl:zam (acc++e.out) e.slots.next with
   | none=>rfl
   | some f=>have:=(h.lf _ f hl).1;omega
  have hop:∀id,(za5 e.slots.next n).opens id=decide (e.slots.next=id):=λid=>by
   unfold EvM.opens za5;simp
  have old:∀id f,zam (acc++e.out) id=some f→zam ((acc++e.out)++[za5 e.slots.next n]) id=some (f.add (za5 e.slots.next n))∧(f.add (za5 e.slots.next n)).steps=f.steps∧(f.add (za5 e.slots.next n)).read=f.read∧(f.add (za5 e.slots.next n)).script=f.script:=λid f hf=>
   ⟨by rw [zap,hf],(zcb (by decide:(2:Int)≠4) (by decide:(2:Int)≠8)).1,(zcb (by decide:(2:Int)≠4) (by decide:(2:Int)≠8)).2,zb4 _ _⟩
  have hnp:=z1p (s:=e.s) (p:=e.scripts.getD n.toNat PrM.zero) (now:=e.clock) ho.sg;have hnl:=ziw e.s (e.scripts.getD n.toNat PrM.zero) e.clock;refine⟨h.es,h.ep,λid f hf=> ?_,λi x hx=> ?_,(by show e.slots.next+1≤4096;omega),λid hid=> ?_,.snoc h.pr λhh=>absurd hh (by show¬((2:Int)=8∨(2:Int)=4);decide)⟩
  rotate_right
  ·cases hq:zam (acc++e.out) id with
   | some q=>exact h.nn id (by rw [hq];simp)
   | none=>
    rw [zap,hq]at hid;dsimp only at hid;rw [hop]at hid;split at hid
    ·rename_i c;have c:=of_decide_eq_true c
     have:=ho.n0
     omega
    ·exact absurd rfl hid
  ·show id<e.slots.next+1∧_
   cases hq:zam (acc++e.out) id with
   | some q=>
    obtain⟨o1,o2,o3,o4⟩:=old id q hq;rw [o1]at hf;cases hf;rw [o2,o3,o4];obtain⟨l1,l2⟩:=h.lf id q hq;exact⟨by omega,l2⟩
   | none=>
    rw [zap,hq]at hf;dsimp only at hf;rw [hop]at hf;split at hf
    ·rename_i c;have c:=of_decide_eq_true c;cases hf;refine⟨by omega,⟨r1.1,by rw [←h.ep];exact r1.2⟩,by rw [←h.ep];exact r2,JJ _⟩
    ·cases hf
  ·unfold Eng.seat at hx;simp only at hx;rw [JA,Jy]at hx;by_cases hi:e.slots.first=i
   ·rw [if_pos hi,if_pos (by rw [ho.l1];exact f1)]at hx;cases hx;refine⟨hnl.2.2.1,hnp.2,{LifeM.new e.slots.next with from_:=(acc++e.out).foldl from1 0,script:=n},?_,?_,?_⟩
    ·rw [zap,fresh];dsimp only;rw [hop,if_pos (decide_eq_true rfl)];rfl
    ·show(Dia.new e.s (e.scripts.getD n.toNat PrM.zero) e.clock).p=_;rw [hnl.2.1,h.ep]
    ·show 0+(Dia.new e.s (e.scripts.getD n.toNat PrM.zero) e.clock).pot≤capC su (Dia.new e.s (e.scripts.getD n.toNat PrM.zero) e.clock).p+_;rw [hnl.2.1]
     have:=hnp.1
     rw [←h.es];unfold capC;omega
   ·rw [if_neg hi,←JA]at hx;obtain⟨s1,s2,q,q1,q2,q3⟩:=h.st i x hx;obtain⟨o1,o2,o3,o4⟩:=old _ q q1;exact⟨s1,s2,_,o1,by rw [o4];exact q2,by rw [o2,o3];exact q3⟩
theorem zx7 (ho:e.Ok) (h:PI su ps (acc++e.out) e) (o:OfferM):PI su ps (acc++(e.offer o).out) (e.offer o):=by
 unfold Eng.offer;cases e.slots.slot o.id with
 | none=>exact h
 | some k=>
  dsimp only;cases hk:e.seat k with
  | none=>exact h
  | some x=>
   dsimp only;obtain⟨s1,s2,_⟩:=h.st k x hk;split
   ·exact h
   ·exact h.seat ho (y:={x with q:=x.q++o.bytes.data.toList,eof:=o.eof}) hk rfl s1 s2 rfl (JG _)
theorem z1l (ho:e.Ok) (h:PI su ps (acc++e.out) e) (t:Int) (now:Bool) (id:Int):PI su ps (acc++(e.cut1 t now id).out) (e.cut1 t now id):=by
 unfold Eng.cut1;cases e.slots.slot id with
 | none=>exact h
 | some k=>
  dsimp only;cases hk:e.seat k with
  | none=>exact h
  | some x=>
   dsimp only;obtain⟨s1,s2,_⟩:=h.st k x hk;obtain⟨d1,d2,d4⟩:=ho.dO k x hk;have hc:=zbv x.d t;have hcp:=z2c s2 t;have hpp:(x.d.cut t).p=x.d.p:=by unfold Dia.cut;split <;>rfl
   have h1:PI su ps (acc++(e.setSeat k (some {x with d:=x.d.cut t})).out) (e.setSeat k (some {x with d:=x.d.cut t})):=
    h.seat ho (y:={x with d:=x.d.cut t}) hk rfl (hc.2.1.trans s1) hcp.2 hpp (by show(x.d.cut t).pot≤_;rw [hcp.1];exact JG _)
   have ho1:(e.setSeat k (some {x with d:=x.d.cut t})).Ok:=zaq (y:={x with d:=x.d.cut t}) ho hk rfl ⟨zly d1 t,hc.1.trans d2,by show(x.d.cut t).now≤_;rw [hc.2.2];exact d4⟩;split
   ·exact ze0 h1 k
   ·split
    ·exact ze0 (zmo ho1 h1 k) k
    ·exact zmo ho1 h1 k
theorem zg0 {α:Type} {f:Eng→α→Eng} (hf:∀(e:Eng) (a:α),e.Ok→PI su ps (acc++e.out) e→(f e a).Ok∧PI su ps (acc++(f e a).out) (f e a)):∀(l:List α) (e:Eng),e.Ok→PI su ps (acc++e.out) e→(l.foldl f e).Ok∧PI su ps (acc++(l.foldl f e).out) (l.foldl f e)
 | [],_,ho,h=>⟨ho,h⟩
 | a::l,e,ho,h=>zg0 hf l (f e a) (hf e a ho h).1 (hf e a ho h).2
theorem zz5 (ho:e.Ok) (h:PI su ps (acc++e.out) e) (t:Int) (now:Bool):PI su ps (acc++(e.cut t now).out) (e.cut t now):=by
 unfold Eng.cut;refine(zg0 (λe a ho h=>⟨zm7 ho t now a,z1l ho h t now a⟩) _ _ ?_ ?_).2
 ·exact{ho with}
 ·show PI su ps (acc++(e.out++[zbb t])) _;rw [←JO];exact(h.tell (x:=zbb t) (show(7:Int)≠2 by decide) (show(7:Int)≠4 by decide) (show(7:Int)≠8 by decide)).same rfl rfl (Int.le_refl _) λ_ _ hz=>hz
theorem zx8 (ho:e.Ok) (h:PI su ps (acc++e.out) e) (r:RoundM):PI su ps (acc++(e.drain r).out) (e.drain r):=by
 unfold Eng.drain;split
 ·exact zz5 ho h _ _
 ·split
  ·exact zz5 ho h _ _
  ·exact h
theorem zu3 (ho:e.Ok) (h:PI su ps (acc++e.out) e) (k:Nat):PI su ps (acc++(e.read k).out) (e.read k):=by
 unfold Eng.read;cases hk:e.seat k with
 | none=>exact h
 | some x=>
  dsimp only;obtain⟨s1,s2,_⟩:=h.st k x hk;obtain⟨d1,d2,d4⟩:=ho.dO k x hk;by_cases c0:x.d.room=0
  ·rw [if_pos c0];exact h
  ·rw [if_neg c0];have key:∀(e1:Eng) (x1:Seat),e1.Ok→PI su ps (acc++e1.out) e1→e1.seat k=some x1→x1.id=x.id→PI su ps (acc++(if x1.over&&(x1.d.runs&& !x1.d.eof)then(e1.setSeat k (some {x1 with d:=x1.d.ends})).tell (evEof x.id)else e1).out) (if x1.over&&(x1.d.runs&& !x1.d.eof)then(e1.setSeat k (some {x1 with d:=x1.d.ends})).tell (evEof x.id)else e1):=by
    intro e1 x1 ho1 h1 hk1 hid;split
    ·obtain⟨t1,t2,_⟩:=h1.st k x1 hk1;have he:=zyy t2;have hl:=zcl x1.d;have hpp:x1.d.ends.p=x1.d.p:=by unfold Dia.ends;split <;>rfl
     show PI su ps (acc++(e1.out++[evEof x.id])) _;rw [←JO];exact((h1.seat ho1 (y:={x1 with d:=x1.d.ends}) hk1 rfl (hl.2.1.trans t1) he.2 hpp (by show x1.d.ends.pot≤_;rw [he.1];exact JG _)).tell (x:=evEof x.id) (show(5:Int)≠2 by decide) (show(5:Int)≠4 by decide) (show(5:Int)≠8 by decide)).same rfl rfl (Int.le_refl _) λ_ _ hz=>hz
    ·exact h1
   by_cases c1:x.reads=[]
   ·rw [if_pos c1,if_pos c1];exact key e x ho h hk rfl
   ·rw [if_neg c1,if_neg c1];have hl:=zcs x.d (x.q.take x.d.room);have hpp:(x.d.put (x.q.take x.d.room)).p=x.d.p:=by unfold Dia.put;split <;>rfl
    refine key _ _ ?_ ?_ ?_ rfl
    ·exact zd6 (zaq (y:=x.read1) ho hk rfl ⟨zob d1 _,hl.1.trans d2,by show(x.d.put _).now≤_;rw [hl.2.2];exact d4⟩) _
    ·show PI su ps (acc++(e.out++[zd0 x.id ⟨⟨x.reads⟩⟩])) _;rw [←JO];exact(h.seatEv ho (y:=x.read1) (v:=zd0 x.id ⟨⟨x.reads⟩⟩) hk rfl (hl.2.1.trans s1) (z2w s2 _) hpp rfl (.inl ⟨rfl,z1f _ _⟩)).same rfl rfl (Int.le_refl _) λ_ _ hz=>hz
    ·exact(zag hk x.read1 k).trans (if_pos rfl)
theorem zrw (ho:e.Ok) (h:PI su ps (acc++e.out) e) (k:Nat) (n:Int):PI su ps (acc++(e.write k n).out) (e.write k n):=by
 unfold Eng.write;cases hk:e.seat k with
 | none=>exact h
 | some x=>
  dsimp only;obtain⟨s1,s2,_⟩:=h.st k x hk;have ht:=zxg s2 n;have hl:=zcf x.d n;have hpp:(x.d.take n).p=x.d.p:=by unfold Dia.take;split <;>rfl
  have h1:=h.seat ho (y:={x with d:=x.d.take n}) hk rfl (hl.2.1.trans s1) ht.2 hpp (by show(x.d.take n).pot≤_;rw [ht.1];exact JG _);split
  ·exact h1
  ·show PI su ps (acc++(e.out++[zdf x.id (x.d.taken n)])) _;rw [←JO];exact(h1.tell (x:=zdf x.id (x.d.taken n)) (show(6:Int)≠2 by decide) (show(6:Int)≠4 by decide) (show(6:Int)≠8 by decide)).same rfl rfl (Int.le_refl _) λ_ _ hz=>hz
theorem zu2 (ho:e.Ok) (h:PI su ps (acc++e.out) e) (r:ReportM):PI su ps (acc++(e.report r).out) (e.report r):=by
 unfold Eng.report;cases e.slots.slot r.id with
 | none=>exact h
 | some k=>
  dsimp only;have h1:PI su ps (acc++(e.reported r k).out) (e.reported r k):=by
   unfold Eng.reported;dsimp only;by_cases c:r.read=true
   ·rw [if_pos c];split
    ·exact zrw (zmj ho k).1 (zu3 ho h k) k _
    ·exact zu3 ho h k
   ·rw [if_neg c];split
    ·exact zrw ho h k _
    ·exact h
  split
  ·exact ze0 h1 k
  ·exact h1
theorem zry:∀(f:Nat) (e:Eng) (k:Nat),e.Ok→PI su ps (acc++e.out) e→PI su ps (acc++(Eng.spend f e k).2.out) (Eng.spend f e k).2
 | 0,_,_,_,h=>h
 | f+1,e,k,ho,h=>by
  rw [Eng.spend];cases hk:e.seat k with
  | none=>exact h
  | some x=>
   dsimp only;split
   ·split
    ·have ho1:=zlg ho x.d.price;have h1:PI su ps (acc++({e with turns:=(e.turns.pay x.d.price).1}:Eng).out) {e with turns:=(e.turns.pay x.d.price).1}:=h.same rfl rfl (Int.le_refl _) λ_ _ hz=>hz;split
     ·exact zry f _ k (zbi ho1 k) (zmo ho1 h1 k)
     ·exact zmo ho1 h1 k
    ·exact h
   ·exact h
theorem z1i (ho:e.Ok) (h:PI su ps (acc++e.out) e):PI su ps (acc++e.turn.2.out) e.turn.2:=by
 unfold Eng.turn;cases hb:e.turns.begin.2 with
 | none=>exact h
 | some k=>
  dsimp only;obtain⟨ho1,_⟩:=zhh ho hb;have h1:PI su ps (acc++({e with turns:=e.turns.begin.1}:Eng).out) {e with turns:=e.turns.begin.1}:=h.same rfl rfl (Int.le_refl _) λ_ _ hz=>hz;have h2:=zry ((e.turns.begin.1.has.getD k 0).toNat+1) _ k ho1 h1;split
  ·unfold Eng.rest;cases(Eng.spend ((e.turns.begin.1.has.getD k 0).toNat+1) {e with turns:=e.turns.begin.1} k).2.seat k with
   | none=>exact h2
   | some x=>exact h2.same rfl rfl (Int.le_refl _) λ_ _ hz=>hz
  ·exact h2
theorem zrx:∀(v:Nat) (e:Eng),e.Ok→PI su ps (acc++e.out) e→PI su ps (acc++(Eng.visit v e).out) (Eng.visit v e)
 | 0,_,_,h=>h
 | v+1,e,ho,h=>by
  rw [Eng.visit];split
  ·exact zrx v _ (zl4 ho) (z1i ho h)
  ·exact h
theorem zs4 (ho:e.Ok) (h:PI su ps (acc++e.out) e):PI su ps (acc++e.wakeAll.out) e.wakeAll:=by
 unfold Eng.wakeAll
 have:∀(l:List (Int×Nat)) (e:Eng),PI su ps (acc++e.out) e→PI su ps (acc++(l.foldl (λe t=>e.settle t.2) e).out) (l.foldl (λe t=>e.settle t.2) e):=by
  intro l
  induction l with
  | nil=>exact λ_ h=>h
  | cons a l ih=>exact λe h=>ih _ (ze0 h a.2)
 exact this _ _ (h.same rfl rfl (Int.le_refl _) λ_ _ hz=>hz)
theorem z1k (h:PI su ps (acc++e.out) e):PI su ps (acc++e.halt.out) e.halt:=by
 unfold Eng.halt;split
 ·show PI su ps (acc++(e.out++[zf4])) _;rw [←JO];exact(h.tell (x:=zf4) (show(9:Int)≠2 by decide) (show(9:Int)≠4 by decide) (show(9:Int)≠8 by decide)).same rfl rfl (Int.le_refl _) λ_ _ hz=>hz
 ·exact h
theorem zx6 (ho:e.Ok) (h:PI su ps acc e) (r:RoundM):PI su ps (acc++(e.round r).out) (e.round r):=by
 have h1:PI su ps (acc++(e.start r).out) (e.start r):=
  (h.tell (x:=zb9 (min (tadd e.clock r.ticks) (never-1))) (show(1:Int)≠2 by decide) (show(1:Int)≠4 by decide) (show(1:Int)≠8 by decide)).same rfl rfl (Int.le_refl _) λ_ _ hz=>hz
 have o1:=zfe ho r;obtain⟨o2,h2⟩:=zg0 (acc:=acc) (λe a ho h=>⟨zhx ho a,z1j ho h a⟩) r.opens _ o1 h1;obtain⟨o3,h3⟩:=zg0 (acc:=acc) (λe a ho h=>⟨zfm ho a,zx7 ho h a⟩) r.offers _ o2 h2;have h4:=zx8 o3 h3 r;have o4:=zi0 o3 r;obtain⟨o5,h5⟩:=zg0 (acc:=acc) (λe a ho h=>⟨zgt ho a,zu2 ho h a⟩) r.reports _ o4 h4;have h6:=zs4 o5 h5;have o6:=zhk o5;exact z1k (zrx _ _ o6 h6)
theorem zz4:∀(rs:List RoundM) (f:FairM),f.e.Ok→PI su ps f.out f.e→(rs.foldl FairM.round f).e.Ok∧PI su ps (rs.foldl FairM.round f).out (rs.foldl FairM.round f).e
 | [],_,ho,h=>⟨ho,h⟩
 | r::rs,f,ho,h=>zz4 rs (f.round r) (zrm ho r) (zx6 ho h r)
theorem z3c (su:Setup) (ps:List PrM):PI su ps [] (Eng.new su ps):=by
 refine⟨rfl,rfl,(λid f hf=>by cases hf),λk x hx=> ?_,(by show(0:Int)≤4096;decide),(λid hid=>absurd rfl hid),.nil⟩;unfold Eng.seat Eng.new at hx;simp only [JA,QD]at hx;split at hx <;>simp at hx
end
def wSum (w:EvM→Nat) (L:List EvM):Nat:=(L.map w).sum
theorem zfc (w:EvM→Nat) (a b:List EvM):wSum w (a++b)=wSum w a+wSum w b:=by simp [wSum]
theorem zgk (w:EvM→Nat) (x:EvM):wSum w [x]=w x:=by simp [wSum]
def wOf (w:EvM→Nat) (k:Int) (x:EvM):Nat:=if x.id=k then w x else 0
theorem zn4 (id:Int) (c:Nat):∀N:Nat,((List.range N).map λk:Nat=>if id=(k:Int)then c else 0).sum=if 0≤id∧id<N then c else 0
 | 0=>by simp;intro h1 h2;omega
 | N+1=>by
  rw [List.range_succ,QL,QX,zn4 id c N];simp only [Jf,Qb,QF,List.sum_nil,Nat.add_zero];by_cases h1:0≤id∧id<N
  ·rw [if_pos h1,if_neg (by omega),if_pos (by omega)];omega
  ·rw [if_neg h1];by_cases h2:id=N
   ·rw [if_pos h2,if_pos (by omega)];omega
   ·rw [if_neg h2,if_neg (by omega)]
theorem zpr (f g:Nat→Nat):∀l:List Nat,(l.map λk=>f k+g k).sum=(l.map f).sum+(l.map g).sum
 | []=>rfl
 | a::l=>by simp only [Jf,QF,zpr f g l];omega
theorem zq8 {f g:Nat→Nat}:∀l:List Nat,(∀k∈l,f k≤g k)→(l.map f).sum≤(l.map g).sum
 | [],_=>JG _
 | a::l,h=>by
  have h1:=h a QE;have h2:=zq8 l λk hk=>h k (Jo _ hk);simp only [Jf,QF];omega
theorem zjf (c:Nat):∀l:List Nat,(l.map λ_=>c).sum=l.length*c
 | []=>by simp
 | a::l=>by simp only [Jf,QF,zjf c l,Jw];rw [Nat.succ_mul];omega
theorem zqd (w:EvM→Nat) (N:Nat):∀L:List EvM,((List.range N).map λk:Nat=>wSum (wOf w k) L).sum=wSum (λx=>if 0≤x.id∧x.id<N then w x else 0) L
 | []=>by
  have:=zjf 0 (List.range N)
  simp only [wSum,Qb,List.sum_nil]at this ⊢;omega
 | x::L=>by
  have ih:=zqd w N L;have e1:(λk:Nat=>wSum (wOf w k) (x::L))=λk:Nat=>(if x.id=(k:Int)then w x else 0)+wSum (wOf w k) L:=by
   funext k;simp [wSum,wOf]
  rw [e1,zpr,zn4,ih];simp [wSum]
theorem zi7 {w v:EvM→Nat}:∀{L:List EvM},(∀x∈L,w x≤v x)→wSum w L≤wSum v L
 | [],_=>JG _
 | a::L,h=>by
  have h1:=h a QE;have h2:=zi7 (L:=L) λk hk=>h k (Jo _ hk);simp only [wSum,Jf,QF]at h2 ⊢;omega
def wSt (x:EvM):Nat:=if x.kind=8 then 1 else 0
def wRd (x:EvM):Nat:=if x.kind=4 then x.bytes.size else 0
def wOt (x:EvM):Nat:=if x.kind=8 then 0 else 1
theorem zos:∀L:List EvM,L.length=wSum wSt L+wSum wOt L
 | []=>rfl
 | x::L=>by
  have:=zos L
  simp only [wSum,Jf,QF,Jw]at this ⊢;unfold wSt wOt at *;split <;>omega
theorem zru {L:List EvM} (h:Pre L) (id:Int):wSum (wOf wSt id) L=((zam L id).map λf=>f.steps.length).getD 0∧wSum (wOf wRd id) L=((zam L id).map λf=>f.read.size).getD 0:=by
 induction h with
 | nil=>exact⟨rfl,rfl⟩
 | @snoc L x h hx ih=>
  rw [zfc,zfc,zgk,zgk,zap,ih.1,ih.2];cases hq:zam L id with
  | none=>
   have hk:¬(x.id=id∧(x.kind=8∨x.kind=4)):=λhh=>hx hh.2 (by rw [hh.1];exact hq);have e8:wOf wSt id x=0:=by
    unfold wOf wSt;split
    ·split
     ·exact absurd ⟨‹_›,.inl ‹_›⟩ hk
     ·rfl
    ·rfl
   have e4:wOf wRd id x=0:=by
    unfold wOf wRd;split
    ·split
     ·exact absurd ⟨‹_›,.inr ‹_›⟩ hk
     ·rfl
    ·rfl
   rw [e8,e4];dsimp only;split <;>exact⟨rfl,rfl⟩
  | some f=>
   have fid:=zck hq;dsimp only [Option.map_some,Option.getD_some];by_cases c:x.id=id
   ·have c':x.id=f.id:=by rw [fid];exact c
    by_cases k8:x.kind=8
    ·rw [(zek c' k8).1,(zek c' k8).2];simp [wOf,wSt,wRd,c,k8]
    ·by_cases k4:x.kind=4
     ·rw [(zhj c' k4).1,(zhj c' k4).2,ByteArray.size_append];simp [wOf,wSt,wRd,c,k4]
     ·rw [(zcb k4 k8).1,(zcb k4 k8).2];simp [wOf,wSt,wRd,c,k8,k4]
   ·have c':x.id≠f.id:=by rw [fid];exact c
    rw [(zd2 c').1,(zd2 c').2];simp [wOf,c]
theorem z1g {L:List EvM} (h:Pre L):∀x∈L,x.kind=8∨x.kind=4→zam L x.id≠none:=by
 induction h with
 | nil=>exact λx hx=>nomatch hx
 | @snoc L y h hy ih=>
  intro x hx hk;have keep:∀id,zam L id≠none→zam (L++[y]) id≠none:=λid hid=>by
   rw [zap];cases hq:zam L id with
   | none=>exact absurd hq hid
   | some f=>simp
  rcases JX.1 hx with hx | hx
  ·exact keep _ (ih x hx hk)
  ·rw [Jg]at hx;subst hx;exact keep _ (hy hk)
theorem zt1 {su:Setup} {ps:List PrM} {L:List EvM} {e:Eng} (h:PI su ps L e) {C:Nat} (hC:∀p,goodP p=true→capC su p≤C):wSum wSt L≤4096*C+wSum wRd L:=by
 have h1:wSum wSt L≤wSum (λx=>if 0≤x.id∧x.id<(4096:Nat)then wSt x else 0) L:=zi7 λx hx=>by
  by_cases k8:x.kind=8
  ·have hl:=z1g h.pr x hx (.inl k8);have h0:=h.nn _ hl;have h2:x.id<e.slots.next:=by
    cases hq:zam L x.id with
    | none=>exact absurd hq hl
    | some f=>exact(h.lf _ f hq).1
   have:=h.nle
   rw [if_pos ⟨h0,by omega⟩];exact JG _
  ·have:wSt x=0:=if_neg k8
   omega
 have h4:=zqd wSt 4096 L;have h5:=zqd wRd 4096 L;have h2:((List.range 4096).map λk:Nat=>wSum (wOf wSt k) L).sum≤((List.range 4096).map λk:Nat=>C+wSum (wOf wRd k) L).sum:=zq8 _ λk _=>by
  rw [(zru h.pr k).1,(zru h.pr k).2];cases hq:zam L k with
  | none=>simp
  | some f=>
   obtain⟨_,_,g,l⟩:=h.lf _ f hq
   have:=hC _ g
   simp only [QW,Qd];omega
 rw [zpr,zjf,List.length_range]at h2;have h3:wSum (λx=>if 0≤x.id∧x.id<(4096:Nat)then wRd x else 0) L≤wSum wRd L:=zi7 λx _=>by split <;>omega
 omega
def wBy (x:EvM):Nat:=x.bytes.size
def Cap (e e':Eng) (a b c:Nat):Prop:=wSum wOt e'.out≤wSum wOt e.out+a∧wSum wBy e'.out≤wSum wBy e.out+b∧wSum wRd e'.out≤wSum wRd e.out+c
section
variable {e e' e2:Eng} {a b c a' b' c':Nat}
theorem Cap.same (h:e'.out=e.out):Cap e e' 0 0 0:=by unfold Cap;rw [h];exact⟨JG _,JG _,JG _⟩
theorem Cap.tell {x:EvM} (h:e'.out=e.out++[x]) (h1:wOt x≤a) (h2:x.bytes.size≤b) (h3:wRd x≤c):Cap e e' a b c:=by
 unfold Cap;rw [h,zfc,zfc,zfc,zgk,zgk,zgk];exact⟨by omega,by unfold wBy;omega,by omega⟩
theorem Cap.trans (h:Cap e e' a b c) (h':Cap e' e2 a' b' c'):Cap e e2 (a+a') (b+b') (c+c'):=by unfold Cap at *;omega
theorem Cap.le (h:Cap e e' a b c) (h1:a≤a') (h2:b≤b') (h3:c≤c'):Cap e e' a' b' c':=by unfold Cap at *;omega
theorem Cap.end_ (h:Cap e e' a b c) (h':e2.out=e'.out):Cap e e2 a b c:=(h.trans (Cap.same h')).le (JG _) (JG _) (JG _)
theorem zi8 (x:EvM):wOt x≤1:=by unfold wOt;split <;>omega
theorem zsj (e:Eng) (k:Nat):Cap e (e.step k).2 0 0 0:=by
 unfold Eng.step;cases e.seat k with
 | none=>exact Cap.same rfl
 | some x=>
  dsimp only;cases x.d.step e.clock with
  | none=>dsimp only;split <;>exact Cap.same rfl
  | some y=>
   dsimp only;split <;>exact Cap.tell (x:=zar x.id y.1) rfl (JG _) (JG _) (JG _)
theorem zy7 (e:Eng) (n:Int):Cap e (e.open n) 1 0 0:=by
 unfold Eng.open;split
 ·exact Cap.tell (x:=zbz e.slots.skipped n (e.refused n)) rfl (zi8 _) (JG _) (JG _)
 ·refine Cap.end_ (e':={e with slots:=e.slots.open,seats:=e.seats.set e.slots.first (some ⟨e.slots.next,Dia.new e.s (e.scripts.getD n.toNat PrM.zero) e.clock,[],false⟩),out:=e.out++[za5 e.slots.next n]}) ?_ (zbc _ _);exact Cap.tell (x:=za5 e.slots.next n) rfl (zi8 _) (JG _) (JG _)
theorem zwv (e:Eng) (o:OfferM):Cap e (e.offer o) 0 0 0:=by
 unfold Eng.offer;cases e.slots.slot o.id with
 | none=>exact Cap.same rfl
 | some k=>
  dsimp only;cases e.seat k with
  | none=>exact Cap.same rfl
  | some x=>dsimp only;split <;>exact Cap.same rfl
theorem zy9 (e:Eng) (t:Int) (now:Bool) (id:Int):Cap e (e.cut1 t now id) 0 0 0:=by
 unfold Eng.cut1;cases e.slots.slot id with
 | none=>exact Cap.same rfl
 | some k=>
  dsimp only;cases e.seat k with
  | none=>exact Cap.same rfl
  | some x=>
   dsimp only;have h1:Cap e (e.setSeat k (some {x with d:=x.d.cut t})) 0 0 0:=Cap.same rfl;have h2:=(h1.trans (zsj _ k)).le (JG 0) (JG 0) (JG 0);split
   ·exact h1.end_ (zbc _ _)
   ·split
    ·exact h2.end_ (zbc _ _)
    ·exact h2
theorem ze8 {α:Type} {f:Eng→α→Eng} (hf:∀(e:Eng) (x:α),e.Ok→(f e x).Ok∧Cap e (f e x) a b c):∀(l:List α) (e:Eng),e.Ok→Cap e (l.foldl f e) (l.length*a) (l.length*b) (l.length*c)
 | [],_,_=>(Cap.same rfl).le (JJ _) (JJ _) (JJ _)
 | x::l,e,ho=>by
  obtain⟨h1,h2⟩:=hf e x ho
  have:=h2.trans (ze8 hf l _ h1)
  refine this.le ?_ ?_ ?_ <;>rw [Jw,Nat.succ_mul] <;>omega
theorem zwx (ho:e.Ok) (t:Int) (now:Bool):Cap e (e.cut t now) 1 0 0:=by
 unfold Eng.cut;have h1:Cap e {e with drains:=true,out:=e.out++[zbb t]} 1 0 0:=Cap.tell (x:=zbb t) rfl (zi8 _) (JG _) (JG _);have ho1:Eng.Ok {e with drains:=true,out:=e.out++[zbb t]}:={ho with};have h2:=ze8 (f:=Eng.cut1 t now) (λe id h=>⟨zm7 h t now id,zy9 e t now id⟩) e.slots.live _ ho1;exact(h1.trans h2).le (by omega) (by omega) (by omega)
theorem zww (ho:e.Ok) (r:RoundM):Cap e (e.drain r) 1 0 0:=by
 unfold Eng.drain;split
 ·exact zwx ho _ _
 ·split
  ·exact zwx ho _ _
  ·exact(Cap.same rfl).le (JJ _) (JJ _) (JJ _)
theorem zxw (ho:e.Ok) {k:Nat} {x:Seat} (hk:e.seat k=some x):x.reads.length≤4096:=by
 obtain⟨h1,h2,_⟩:=ho.dO k x hk;have hg:=zal ho.sg;unfold Seat.reads;rw [Jh]
 have:x.d.room≤4096:=by
  unfold Dia.room Dia.fits;rw [h2];split <;>omega
 omega
theorem zy6 (ho:e.Ok) (k:Nat):Cap e (e.read k) 2 4096 4096:=by
 unfold Eng.read;cases hk:e.seat k with
 | none=>exact(Cap.same rfl).le (JJ _) (JJ _) (JJ _)
 | some x=>
  dsimp only;have hr:=zxw ho hk;split
  ·exact(Cap.same rfl).le (JJ _) (JJ _) (JJ _)
  ·have h1:Cap e ((e.setSeat k (some x.read1)).tell (zd0 x.id ⟨⟨x.reads⟩⟩)) 1 4096 4096:=Cap.tell (x:=zd0 x.id ⟨⟨x.reads⟩⟩) rfl (zi8 _) hr hr;have h2:∀(e1:Eng) (y:Option Seat),Cap e1 ((e1.setSeat k y).tell (evEof x.id)) 1 0 0:=λe1 y=>Cap.tell (x:=evEof x.id) rfl (zi8 _) (JG _) (JG _);have h0:Cap e e 0 0 0:=Cap.same rfl;by_cases c:x.reads=[]
   ·rw [if_pos c,if_pos c];split
    ·exact(h2 e _).le (by omega) (by omega) (by omega)
    ·exact h0.le (by omega) (by omega) (by omega)
   ·rw [if_neg c,if_neg c];split
    ·exact(h1.trans (h2 _ _)).le (by omega) (by omega) (by omega)
    ·exact h1.le (by omega) (by omega) (by omega)
theorem zwt (ho:e.Ok) (k:Nat) (n:Int):Cap e (e.write k n) 1 1000000000000 0:=by
 unfold Eng.write;cases hk:e.seat k with
 | none=>exact(Cap.same rfl).le (JJ _) (JJ _) (JJ _)
 | some x=>
  dsimp only;split
  ·exact(Cap.same rfl).le (JJ _) (JJ _) (JJ _)
  ·have hou:=(ho.dO k x hk).1.ou
   have:(x.d.taken n).size≤1000000000000:=by
    have h3:=hou.h3;unfold Dia.taken;split
    ·unfold Wtr.taken;split
     ·exact JJ _
     ·rw [ByteArray.size_extract];omega
    ·exact JJ _
   exact Cap.tell (x:=zdf x.id (x.d.taken n)) rfl (zi8 _) this (JG _)
theorem ztm (ho:e.Ok) (r:ReportM):Cap e (e.report r) 3 1000000004096 4096:=by
 unfold Eng.report;cases e.slots.slot r.id with
 | none=>exact(Cap.same rfl).le (JJ _) (JJ _) (JJ _)
 | some k=>
  dsimp only;have h1:Cap e (e.reported r k) 3 1000000004096 4096:=by
   unfold Eng.reported;dsimp only;have hw:∀e1:Eng,e1.Ok→Cap e1 (if r.write then e1.write k r.accept else e1) 1 1000000000000 0:=λe1 ho1=>by
    split
    ·exact zwt ho1 k _
    ·exact(Cap.same rfl).le (JJ _) (JJ _) (JJ _)
   by_cases c:r.read=true
   ·rw [if_pos c];exact((zy6 ho k).trans (hw _ (zmj ho k).1)).le (by omega) (by omega) (by omega)
   ·rw [if_neg c];exact(hw e ho).le (by omega) (by omega) (by omega)
  split
  ·exact h1.end_ (zbc _ _)
  ·exact h1
theorem zph:∀(f:Nat) (e:Eng) (k:Nat),Cap e (Eng.spend f e k).2 0 0 0
 | 0,_,_=>Cap.same rfl
 | f+1,e,k=>by
  rw [Eng.spend];cases e.seat k with
  | none=>exact Cap.same rfl
  | some x=>
   dsimp only;split
   ·split
    ·have h1:Cap e ({e with turns:=(e.turns.pay x.d.price).1}:Eng) 0 0 0:=Cap.same rfl;have h2:=h1.trans (zsj {e with turns:=(e.turns.pay x.d.price).1} k);split
     ·exact h2.trans (zph f _ k)
     ·exact h2
    ·exact Cap.same rfl
   ·exact Cap.same rfl
theorem zy5 (e:Eng):Cap e e.turn.2 0 0 0:=by
 unfold Eng.turn;cases e.turns.begin.2 with
 | none=>exact Cap.same rfl
 | some k=>
  dsimp only;have h1:Cap e ({e with turns:=e.turns.begin.1}:Eng) 0 0 0:=Cap.same rfl;have h2:=h1.trans (zph ((e.turns.begin.1.has.getD k 0).toNat+1) {e with turns:=e.turns.begin.1} k);split
  ·refine h2.end_ ?_;unfold Eng.rest;cases(Eng.spend ((e.turns.begin.1.has.getD k 0).toNat+1) {e with turns:=e.turns.begin.1} k).2.seat k <;>rfl
  ·exact h2
theorem zpg:∀(v:Nat) (e:Eng),Cap e (Eng.visit v e) 0 0 0
 | 0,_=>Cap.same rfl
 | v+1,e=>by
  rw [Eng.visit];split
  ·exact(zy5 e).trans (zpg v _)
  ·exact Cap.same rfl
theorem zqv (e:Eng):Cap e e.wakeAll 0 0 0:=by
 unfold Eng.wakeAll
 have:∀(l:List (Int×Nat)) (e:Eng),(l.foldl (λe t=>e.settle t.2) e).out=e.out:=by
  intro l
  induction l with
  | nil=>exact λ_=>rfl
  | cons a l ih=>exact λe=>(ih _).trans (zbc e a.2)
 exact Cap.same (this _ _)
theorem zy8 (e:Eng):Cap e e.halt 1 0 0:=by
 unfold Eng.halt;split
 ·exact Cap.tell (x:=zf4) rfl (zi8 _) (JG _) (JG _)
 ·exact(Cap.same rfl).le (JJ _) (JJ _) (JJ _)
def rBulk (r:RoundM):Nat:=3+r.opens.length+3*r.reports.length
theorem zwu (ho:e.Ok) (r:RoundM):wSum wOt (e.round r).out≤rBulk r∧wSum wBy (e.round r).out≤r.reports.length*1000000004096∧wSum wRd (e.round r).out≤r.reports.length*4096:=by
 have o1:=zfe ho r;have h1:=ze8 (f:=Eng.open) (a:=1) (b:=0) (c:=0) (λe n h=>⟨zhx h n,zy7 e n⟩) r.opens _ o1;have o2:(r.opens.foldl Eng.open (e.start r)).Ok:=zc9 (λe n h=>zhx h n) _ _ o1;have h2:=ze8 (f:=Eng.offer) (a:=0) (b:=0) (c:=0) (λe o h=>⟨zfm h o,zwv e o⟩) r.offers _ o2;have o3:(r.offers.foldl Eng.offer (r.opens.foldl Eng.open (e.start r))).Ok:=zc9 (λe n h=>zfm h n) _ _ o2;have h3:=zww o3 r;have o4:=zi0 o3 r;have h4:=ze8 (f:=Eng.report) (a:=3) (b:=1000000004096) (c:=4096) (λe x h=>⟨zgt h x,ztm h x⟩) r.reports _ o4;have h5:=((((h1.trans h2).trans h3).trans h4).trans (zqv _)).trans (zpg e.s.visits.toNat _);have h6:=h5.trans (zy8 _);have e1:wSum wOt (e.start r).out=1:=rfl;have e2:wSum wBy (e.start r).out=0:=rfl;have e3:wSum wRd (e.start r).out=0:=rfl;unfold Cap at h6;rw [e1,e2,e3]at h6;have h7:e.round r=(Eng.visit e.s.visits.toNat (r.reports.foldl Eng.report ((r.offers.foldl Eng.offer (r.opens.foldl Eng.open (e.start r))).drain r)).wakeAll).halt:=rfl;rw [h7];unfold rBulk;omega
end
theorem zol {α:Type} (f:α→Nat) (c:Nat):∀l:List α,(∀x∈l,f x≤c)→(l.map f).sum≤l.length*c
 | [],_=>JJ _
 | a::l,h=>by
  have h1:=h a QE;have h2:=zol f c l λx hx=>h x (Jo _ hx);simp only [Jf,QF,Jw,Nat.succ_mul];omega
theorem zxk {su:Setup} {p:PrM} (hg:goodP p=true) (hs:good su=true):zdb su p≤51401:=by
 obtain⟨_,_,h3,h4⟩:=zbo hg;have ho:=zal hs;unfold zdb;have h1:=zol (λo:OpM=>cdiv o.text.size su.out.toNat) 256 p.ops λo ho'=>Js (z2e (by omega)) (z0r (h4 o ho'))
 have:p.ops.length*256≤200*256:=Nat.mul_le_mul_right _ h3
 omega
theorem z3v {su:Setup} {p:PrM} (hg:goodP p=true) (hs:good su=true):capC su p≤102904802:=by
 obtain⟨_,⟨h1,h2⟩,_,_⟩:=zbo hg;have h3:=zxk hg hs;unfold capC
 have:2*zdb su p*(p.jumps.toNat+1)≤(2*51401)*(1000+1):=Nat.mul_le_mul (by omega) (by omega)
 omega
theorem zuj:∀(rs:List RoundM) (f:FairM),f.e.Ok→wSum wOt (rs.foldl FairM.round f).out≤wSum wOt f.out+(rs.map rBulk).sum∧wSum wBy (rs.foldl FairM.round f).out≤wSum wBy f.out+(rs.map λr=>r.reports.length).sum*1000000004096∧wSum wRd (rs.foldl FairM.round f).out≤wSum wRd f.out+(rs.map λr=>r.reports.length).sum*4096
 | [],f,_=>⟨Nat.le_add_right _ _,Nat.le_add_right _ _,Nat.le_add_right _ _⟩
 | r::rs,f,ho=>by
  obtain⟨h1,h2,h3⟩:=zuj rs (f.round r) (zrm ho r);obtain⟨g1,g2,g3⟩:=zwu ho r;have e:(f.round r).out=f.out++(f.e.round r).out:=rfl;rw [e,zfc]at h1 h2 h3;simp only [Ji,Jf,QF];refine⟨by omega,?_,?_⟩ <;>rw [Nat.add_mul] <;>omega
theorem zrk {su:Setup} {ps:List PrM} {rs:List RoundM} (hs:good su=true) (hf:∀p∈ps,p.Fit) (hl:ps.length≤64) (hb:(rs.map rBulk).sum≤1000000000) (hr:(rs.map λr=>r.reports.length).sum≤4000000):
  (FairM.run su ps rs).out.length<999999999990∧evSum (FairM.run su ps rs).out≤9000000000000000000:=by
 have ho:=zfn (s:=su) (scripts:=ps) hs hf hl;obtain⟨h1,h2,h3⟩:=zuj rs (FairM.new su ps) ho;have hp:=(zz4 rs (FairM.new su ps) ho (z3c su ps)).2;have h4:=zt1 hp (C:=102904802) λp hg=>z3v hg hs;have h5:=zos (FairM.run su ps rs).out;have e0:(FairM.new su ps).out=[]:=rfl;rw [e0]at h1 h2 h3;have z:∀w,wSum w []=0:=λ_=>rfl;rw [z]at h1 h2 h3;have e6:evSum (FairM.run su ps rs).out=wSum wBy (FairM.run su ps rs).out:=rfl;rw [e6];unfold FairM.run at *;omega
end Go.Proofs.YtbjlfobjngogkaaGreatDoor
namespace Go.Proofs.YtbjlfobjngogkaaGreatDoor
open Go
set_option synthInstance.maxSize 100000
set_option synthInstance.maxHeartbeats 1000000
set_option maxRecDepth 100000
end Go.Proofs.YtbjlfobjngogkaaGreatDoor
namespace Go.Proofs.YtbjlfobjngogkaaGreatDoor
open Go Go.RowKit
set_option maxRecDepth 100000
def wA (W:World):Chunk:=W.heap.toList.zipIdx.map λp=>(p.2,p.1)
theorem zq3 {W:World} {i:Nat} {o:Obj}:(i,o)∈wA W↔W.heap[i]? =some o:=by
 unfold wA;simp only [Jt,Qm];constructor
 ·rintro⟨⟨o',i'⟩,h1,rfl,rfl⟩
  have:=List.mem_zipIdx_iff_getElem?.1 h1
  simpa using this
 ·intro h;exact⟨(o,i),List.mem_zipIdx_iff_getElem?.2 (by simpa using h),rfl,rfl⟩
theorem wA_hs (W:World):Hs W W [wA W]:=by
 refine⟨rfl,rfl,rfl,JG _,λx hx=> ?_,?_⟩
 ·simp only [JV,List.flatten_nil,Jj]at hx;exact zq3.1 hx
 ·simp only [JV,List.flatten_nil,Jj];have e:(wA W).map Prod.fst=List.range' 0 W.heap.toList.length:=by
   unfold wA;rw [Qc];exact List.zipIdx_map_snd ..
  rw [e];exact List.nodup_range'
theorem zxa {W w':World} (h:Hs W w' [wA W]):Below W.heap.size W w':=by
 refine⟨h.os,h.tape,h.out,h.size,λk hk=> ?_⟩;have h1:W.heap[k]? =some W.heap[k]:=Jv hk;have h2:=h.holds (k,W.heap[k]) (by simp only [JV,List.flatten_nil,Jj];exact zq3.2 h1);rw [h1];exact h2
structure BulkL {H:Type} (β:DataW H→Nat):Prop where
 one:∀d,1≤β d
 str:∀l,l.length≤β (.lit (.string l))
 agg:∀l:List (DataW H),(l.map β).sum≤β (.agg l)
 sl:∀l s:List (DataW H),(l.map β).sum+1≤β (.slice l s)
section
variable {H:Type} {enc:TypeId×Value→H} {W:World} {β:DataW H→Nat}
def Rdr (enc:TypeId×Value→H) (W:World) (β:DataW H→Nat) (t:TypeId) (V:List Value→Nat→Prop):Prop:=
 ∀fuel cs x,DataW.trod enc Tryz.prog W 0 (λ_=>true) true fuel t cs=some x→β x.1≤1048576→V cs (β x.1)
theorem zbf {t:TypeId} (ht:Tryz.prog.underlying t=some (.int .i64)) (B:BulkL β):Rdr enc W β t λcs k=>∃n:Int,cs=[.int .i64 n]∧n≤never∧1≤k:=λfuel cs x h _=>by
 obtain⟨n,h1,h2,h3⟩:=DataW.trod_int ht h;refine⟨n,h1,?_,B.one _⟩;simp only [Lit.wf,IntKind.max,IntKind.signed,IntKind.bits,JT,JD]at h3;unfold never
 have:=h3.2
 simp at this;omega
theorem zir {t:TypeId} (ht:Tryz.prog.underlying t=some .bool) (B:BulkL β):Rdr enc W β t λcs k=>∃b:Bool,cs=[.bool b]∧1≤k:=λfuel cs x h _=>by
 obtain⟨n,h1,h2⟩:=DataW.trod_bool ht h;exact⟨n,h1,B.one _⟩
theorem zjv {t:TypeId} (ht:Tryz.prog.underlying t=some .string) (B:BulkL β):Rdr enc W β t λcs k=>∃s:ByteArray,cs=[.string s]∧s.size≤k∧1≤k:=λfuel cs x h _=>by
 obtain⟨s,h1,h2,h3⟩:=DataW.trod_string ht h;refine⟨s,h1,?_,B.one _⟩;rw [h2]
 have:=B.str s.data.toList
 simpa using this
theorem zgo {β:Type} (f:β→Nat):∀l:List β,(l.map f).sum=((List.range l.length).map λi=>(l[i]?.map f).getD 0).sum:=λl=>by
 congr 1;apply List.ext_getElem?;intro i;by_cases h:i<l.length
 ·simp [h]
 ·simp [h]
theorem zje {f g:Nat→Nat}:∀n,(∀i,i<n→f i≤g i)→((List.range n).map f).sum≤((List.range n).map g).sum
 | 0,_=>by simp
 | n+1,h=>by
  rw [List.range_succ,QL,QL,QX,QX]
  have:=zje n λi hi=>h i (by omega)
  have:=h n (by omega)
  simp;omega
theorem zot {f:Nat→Nat}:∀n i,i<n→f i≤((List.range n).map f).sum
 | 0,_,h=>by omega
 | n+1,i,h=>by
  rw [List.range_succ,QL,QX];by_cases e:i=n
  ·subst e;simp
  ·have:=zot (f:=f) n i (by omega)
   omega
theorem zc3 {α:Type} {t e:TypeId} {sz:Nat} {en:Enc α sz} {Ok:α→Prop} {wt:α→Nat} (ht:Tryz.prog.underlying t=some (.slice e)) (he:Tryz.prog.cellsOf e=sz) (B:BulkL β)
  (hel:Rdr enc W β e λcs k=>∃x,cs=en.f x∧Ok x∧1≤wt x∧wt x≤k):
  Rdr enc W β t λcs k=>∃a n c L,cs=[.slice a n c]∧RdS [wA W] en a n c L∧(∀y∈L,Ok y)∧(L.map wt).sum+1≤k∧n≤(L.map wt).sum:=λfuel cs x h hk=>by
 have hpos:=en.pos;rcases Deep.open_slice ht h with ⟨rfl,rfl⟩ | ⟨a,len,cap,m,q,D,Pl,rfl,h0,hlc,hcm,hm,rfl,hx⟩
 ·exact⟨none,0,0,[],rfl,zbx,by simp,by simpa using B.one _,by simp⟩
 ·have hml:len≤m:=by rw [hm];split <;>omega
  have hb:=B.sl ((List.range len).map D) ((List.range (m-len)).map λj=>D (len+j));simp only [Qc]at hb;have hD:∀i,i<len→β (D i)≤1048576:=λi hi=>by
   have:=zot (f:=β ∘ D) len i hi
   simp only [Function.comp]at this hb;simp only at hk;omega
  have hF:∀i,i<len→∃y:α,Ok y∧1≤wt y∧wt y≤β (D i)∧∀j u,(en.f y)[j]? =some u→W.cell? (a.add (i*sz+j))=some u:=λi hi=>by
   obtain⟨cs',h1,h2⟩:=hx i (by omega);obtain⟨y,rfl,h3,h4,h5⟩:=hel _ _ _ h2 (hD i hi);refine⟨y,h3,h4,h5,λj u hu=> ?_⟩;obtain⟨_,h6,h7⟩:=World.cells?_some h1;have hj:=zaa hu;rw [en.len]at hj
   have:=h7 j (by rw [he];exact hj)
   rw [Deep.add_add,he,hu]at this;exact this
  let F:Nat→Option α:=λi=>if hi:i<len then some (Classical.choose (hF i hi))else none
  let L:List α:=(List.range len).filterMap F
  have hL:∀i,i<len→∃y,L[i]? =some y∧Ok y∧1≤wt y∧wt y≤β (D i)∧∀j u,(en.f y)[j]? =some u→W.cell? (a.add (i*sz+j))=some u:=by
   intro i hi;have hs:=Classical.choose_spec (hF i hi);refine⟨_,?_,hs⟩;have e2:∀n,n≤len→((List.range n).filterMap F).length=n:=by
    intro n
    induction n with
    | zero=>intro _;rfl
    | succ n ih=>
     intro hn;rw [List.range_succ,List.filterMap_append,JH,ih (by omega)];simp [F,show n<len by omega]
   have e3:L=(List.range i).filterMap F++(List.range' i (len-i)).filterMap F:=by
    show(List.range len).filterMap F=_;rw [←List.filterMap_append];congr 1;rw [List.range_eq_range',List.range_eq_range',show len=i+(len-i)by omega,←List.range'_append];simp
   rw [e3,Jk (by rw [e2 i (by omega)];omega),e2 i (by omega),Nat.sub_self];rw [show len-i=(len-i-1)+1 by omega,List.range'_succ,List.filterMap_cons];simp [F,hi]
  have hLl:L.length=len:=by
   have e2:∀n,n≤len→((List.range n).filterMap F).length=n:=by
    intro n
    induction n with
    | zero=>intro _;rfl
    | succ n ih=>
     intro hn;rw [List.range_succ,List.filterMap_append,JH,ih (by omega)];simp [F,show n<len by omega]
   exact e2 len (JG _)
  refine⟨some a,len,cap,L,rfl,⟨hLl.symm,hlc,λhn=> ?_⟩,λy hy=> ?_,?_,?_⟩
  ·obtain⟨y0,g1,_,_,_,g2⟩:=hL 0 hn;have hy0:(en.f y0)[0]? =some ((en.f y0)[0]'(by rw [en.len];omega)):=JC _;have g3:=g2 0 _ hy0;rw [Nat.zero_mul,Nat.zero_add,show a.add 0=a from rfl]at g3;unfold World.cell? at g3;split at g3
   ·rename_i c T z hc;split at g3
    ·cases g3
    ·rename_i hsp;have ha:a=ad a.block a.off:=by
      obtain⟨b,o,sp⟩:=a;simp at hsp;subst hsp;rfl
     refine⟨a.block,a.off,T,c.toList,by rw [←ha],⟨z,by simpa using zq3.2 hc⟩,λj u hu=> ?_⟩;have hj:=zaa hu;rw [en.flat_len,hLl]at hj;have hi:j / sz<len:=Nat.div_lt_of_lt_mul (by rw [Nat.mul_comm];exact hj);obtain⟨y,k1,_,_,_,k2⟩:=hL (j / sz) hi;have ej:j=j / sz*sz+j % sz:=by rw [Nat.mul_comm];exact(Nat.div_add_mod j sz).symm
     have hr:j % sz<sz:=Nat.mod_lt _ hpos;have k3:=en.flat_get L (j / sz) (j % sz) y k1 hr;rw [←ej,hu]at k3;have k4:=k2 _ _ k3.symm;rw [←ej,ha]at k4;rw [show(ad a.block a.off).add j=ad a.block (a.off+j)from by rw [zbd]]at k4;simpa [World.cell?,hc]using k4
   ·cases g3
  ·obtain⟨i,hi⟩:=List.getElem?_of_mem hy;obtain⟨y',k1,k2,_⟩:=hL i (by have:=zaa hi;omega);rw [hi]at k1;cases k1;exact k2
  ·have:(L.map wt).sum≤((List.range len).map (β ∘ D)).sum:=by
    rw [zgo,hLl];refine zje _ λi hi=> ?_;obtain⟨y',k1,k2,_,k3,_⟩:=hL i hi;rw [k1];simpa using k3
   simp only at hk ⊢;omega
  ·rw [zgo,hLl]
   have:=zje (f:=λ_=>1) (g:=λi=>(L[i]?.map wt).getD 0) len λi hi=>by
    obtain⟨y',k1,_,k3,_⟩:=hL i hi;rw [k1];simpa using k3
   rw [List.map_const',List.sum_replicate_nat,List.length_range]at this;omega
end
end Go.Proofs.YtbjlfobjngogkaaGreatDoor
namespace Go.Proofs.YtbjlfobjngogkaaGreatDoor
open Go
set_option maxRecDepth 100000
instance sfA:StrF 146 [(true,9,0),(true,3,1)]:=⟨by kernel_rfl⟩
instance sfO:StrF 97 [(true,3,0),(true,9,1),(true,2,2),(true,3,3),(true,95,4),(true,3,5),(true,3,6)]:=⟨by kernel_rfl⟩
instance sfP:StrF 45 [(true,9,0),(true,2,1),(true,3,2),(true,43,3)]:=⟨by kernel_rfl⟩
instance sfF:StrF 85 [(true,3,0),(true,9,1),(true,4,2)]:=⟨by kernel_rfl⟩
instance sfR:StrF 87 [(true,3,0),(true,4,1),(true,4,2),(true,3,3)]:=⟨by kernel_rfl⟩
instance sfQ:StrF 73 [(true,2,0),(true,34,1),(true,70,2),(true,71,3),(true,2,4),(true,4,5)]:=⟨by kernel_rfl⟩
instance sfS:StrF 23 [(true,3,0),(true,3,1),(true,3,2),(true,3,3),(true,3,4),(true,3,5)]:=⟨by kernel_rfl⟩
instance sfT:StrF 27 [(true,23,0),(true,9,6),(true,24,7),(true,25,8)]:=⟨by kernel_rfl⟩
theorem co2:Tryz.prog.cellsOf 2=1:=by kernel_rfl
theorem co3:Tryz.prog.cellsOf 3=1:=by kernel_rfl
theorem co4:Tryz.prog.cellsOf 4=1:=by kernel_rfl
theorem co9:Tryz.prog.cellsOf 9=1:=by kernel_rfl
theorem co146:Tryz.prog.cellsOf 146=2:=by kernel_rfl
theorem co97:Tryz.prog.cellsOf 97=7:=by kernel_rfl
theorem co45:Tryz.prog.cellsOf 45=4:=by kernel_rfl
theorem co85:Tryz.prog.cellsOf 85=3:=by kernel_rfl
theorem co87:Tryz.prog.cellsOf 87=4:=by kernel_rfl
theorem co73:Tryz.prog.cellsOf 73=6:=by kernel_rfl
theorem co23:Tryz.prog.cellsOf 23=6:=by kernel_rfl
theorem co27:Tryz.prog.cellsOf 27=9:=by kernel_rfl
theorem co95:Tryz.prog.cellsOf 95=1:=by kernel_rfl
theorem co43:Tryz.prog.cellsOf 43=1:=by kernel_rfl
theorem co24:Tryz.prog.cellsOf 24=1:=by kernel_rfl
theorem co25:Tryz.prog.cellsOf 25=1:=by kernel_rfl
theorem co34:Tryz.prog.cellsOf 34=1:=by kernel_rfl
theorem co70:Tryz.prog.cellsOf 70=1:=by kernel_rfl
theorem co71:Tryz.prog.cellsOf 71=1:=by kernel_rfl
theorem ze5 {α:Type} {f g:α→Nat}:∀l:List α,(∀x∈l,f x≤g x)→(l.map f).sum≤(l.map g).sum
 | [],_=>by simp
 | x::l,h=>by
  have:=ze5 l λy hy=>h y (Jo _ hy)
  have:=h x QE
  simp only [Jf,QF];omega
theorem zlr {α:Type} (c:Nat) (l:List α):(l.map λ_=>c).sum=c*l.length:=by
 induction l with
 | nil=>simp
 | cons x l ih=>simp only [Jf,QF,ih,Jw,Nat.mul_add];omega
theorem ztf {l:List Nat} {x:Nat} (h:x∈l):x≤l.sum:=by
 induction l with
 | nil=>cases h
 | cons y l ih=>
  simp only [QF];rcases Jp.1 h with rfl | h
  ·omega
  ·have:=ih h;omega
section
variable {H:Type} {enc:TypeId×Value→H} {W:World} {β:DataW H→Nat}
theorem zb1 {t:TypeId} {ks:List (Bool×Nat×Nat)} (q:StrF t ks) (B:BulkL β) {fuel:Nat} {cs:List Value} {x:DataW H×List MemPlace}
  (h:DataW.trod enc Tryz.prog W 0 (λ_=>true) true fuel t cs=some x) (hk:β x.1≤1048576):
  cs.length=Tryz.prog.cellsOf t∧∃bs:List Nat,bs.length=ks.length∧bs.sum≤β x.1∧
   ∀(i:Nat) (b:Bool) (ty off:Nat) (V:List Value→Nat→Prop),ks[i]? =some (b,ty,off)→Rdr enc W β ty V→V ((cs.drop off).take (Tryz.prog.cellsOf ty)) (bs.getD i 0):=by
 obtain⟨h1,h2⟩:=zhm q;obtain⟨xs,n,_,hx,hl,hn,hf⟩:=DataW.trod_struct h1 h;have hagg:=B.agg (xs.map (·.1));rw [hx]at hk ⊢;refine⟨hl,(xs.map (·.1)).map β,?_,hagg,λi b ty off V hi hV=> ?_⟩
 ·rw [JR,JR,hn,←h2];simp
 ·rw [←h2,JW,QI]at hi;obtain⟨f,hf1,hf2⟩:=hi;have hf3:(Tryz.prog.fieldsOf t)[i]? =some f:=by simpa using hf1
  have h3:=hf i f hf3;unfold fKey at hf2;simp only [Qm]at hf2;obtain⟨_,rfl,rfl⟩:=hf2;have hlt:i<xs.length:=by rw [hn];exact(Array.getElem?_eq_some_iff.1 hf3).1
  have h4:xs[i]? =some xs[i]:=JC hlt;rw [h4]at h3;have h5:β (xs[i]).1≤((xs.map (·.1)).map β).sum:=ztf (Qh (Qh (Jq hlt)));have h6:=hV _ _ _ h3 (by simp only at hk;omega);simpa [hlt]using h6
theorem z1c (B:BulkL β):Rdr enc W β 146 λcs k=>∃x:ArmM,cs=zbg.f x∧x.pat.size≤1000000000000∧1≤(λ_:ArmM=>1) x∧(λ_:ArmM=>1) x≤k:=λfuel cs x h hk=>by
 obtain⟨hl,bs,hb,hs,hf⟩:=zb1 sfA B h hk;have h0:=hf 0 _ _ _ _ rfl (zjv Tryz.underlying9 B);have h1:=hf 1 _ _ _ _ rfl (zbf Tryz.underlying3 B);rw [co146]at hl;rw [co9]at h0;rw [co3]at h1
 match cs,hl with
 | [c0,c1],_=>
 match bs,hb with
 | [b0,b1],_=>
 simp only [List.getD_cons_zero,List.getD_cons_succ,QF,List.sum_nil]at h0 h1 hs;obtain⟨s,e0,k0,l0⟩:=h0;obtain⟨n,e1,_⟩:=h1;cases e0;cases e1;exact⟨⟨s,n⟩,rfl,by simp only;omega,JG _,by show 1≤β x.1;omega⟩
theorem z2v (B:BulkL β):Rdr enc W β 97 λcs k=>∃x:OpV,cs=encOp.f x∧(RdS [wA W] zbg x.2.1 x.2.2.1 x.2.2.2 x.1.arms∧x.1.Fit)∧1≤(λ_:OpV=>1) x∧(λ_:OpV=>1) x≤k:=λfuel cs x h hk=>by
 obtain⟨hl,bs,hb,hs,hf⟩:=zb1 sfO B h hk;have h0:=hf 0 _ _ _ _ rfl (zbf Tryz.underlying3 B);have h1:=hf 1 _ _ _ _ rfl (zjv Tryz.underlying9 B);have h2:=hf 2 _ _ _ _ rfl (zbf Tryz.underlying2 B);have h3:=hf 3 _ _ _ _ rfl (zbf Tryz.underlying3 B);have h4:=hf 4 _ _ _ _ rfl (zc3 (en:=zbg) Tryz.underlying95 co146 B (z1c B));have h5:=hf 5 _ _ _ _ rfl (zbf Tryz.underlying3 B);have h6:=hf 6 _ _ _ _ rfl (zbf Tryz.underlying3 B);rw [co97]at hl;rw [co9]at h1;rw [co3]at h0 h3 h5 h6;rw [co2]at h2;rw [co95]at h4
 match cs,hl with
 | [c0,c1,c2,c3,c4,c5,c6],_=>
 match bs,hb with
 | [b0,b1,b2,b3,b4,b5,b6],_=>
 simp only [List.getD_cons_zero,List.getD_cons_succ,QF,List.sum_nil]at h0 h1 h2 h3 h4 h5 h6 hs;obtain⟨n0,e0,_,l0⟩:=h0;obtain⟨s,e1,k1,l1⟩:=h1;obtain⟨n2,e2,_⟩:=h2;obtain⟨n3,e3,_⟩:=h3;obtain⟨a,n,c,L,e4,r4,o4,w4,v4⟩:=h4;obtain⟨n5,e5,_⟩:=h5;obtain⟨n6,e6,_⟩:=h6;cases e0;cases e1;cases e2;cases e3;cases e4;cases e5;cases e6
 have:=r4.len
 exact⟨(⟨n0,s,n2,n3,L,n5,n6⟩,a,n,c),rfl,⟨r4,by simp only;omega,by simp only;omega,λm hm=>o4 m hm⟩,JG _,by show 1≤β x.1;omega⟩
theorem zxx (B:BulkL β):Rdr enc W β 45 λcs k=>∃x:PrV,cs=encPr.f x∧(PrR [wA W] (za9 x.1 x.2.1 x.2.2.1 x.2.2.2) x.1∧x.1.Fit)∧1≤(λ_:PrV=>1) x∧(λ_:PrV=>1) x≤k:=λfuel cs x h hk=>by
 obtain⟨hl,bs,hb,hs,hf⟩:=zb1 sfP B h hk;have h0:=hf 0 _ _ _ _ rfl (zjv Tryz.underlying9 B);have h1:=hf 1 _ _ _ _ rfl (zbf Tryz.underlying2 B);have h2:=hf 2 _ _ _ _ rfl (zbf Tryz.underlying3 B);have h3:=hf 3 _ _ _ _ rfl (zc3 (en:=encOp) Tryz.underlying43 co97 B (z2v B));rw [co45]at hl;rw [co9]at h0;rw [co2]at h1;rw [co3]at h2;rw [co43]at h3
 match cs,hl with
 | [c0,c1,c2,c3],_=>
 match bs,hb with
 | [b0,b1,b2,b3],_=>
 simp only [List.getD_cons_zero,List.getD_cons_succ,QF,List.sum_nil]at h0 h1 h2 h3 hs;obtain⟨s,e0,k0,l0⟩:=h0;obtain⟨n1,e1,_⟩:=h1;obtain⟨n2,e2,_⟩:=h2;obtain⟨a,n,c,L,e3,r3,o3,w3,v3⟩:=h3;cases e0;cases e1;cases e2;cases e3
 have:=r3.len
 refine⟨(⟨s,n1,n2,L.map Prod.fst⟩,a,n,c),rfl,⟨⟨a,n,c,L,rfl,r3,rfl,λy hy=>(o3 y hy).1⟩,by simp only;omega,by simp only [JR];omega,λm hm=> ?_⟩,JG _,by show 1≤β x.1;omega⟩;obtain⟨y,hy,rfl⟩:=Jt.1 hm;exact(o3 y hy).2
theorem z1a (B:BulkL β):Rdr enc W β 85 λcs k=>∃x:OfferM,cs=zkk.f x∧True∧1≤(λx:OfferM=>x.bytes.size+1) x∧(λx:OfferM=>x.bytes.size+1) x≤k:=λfuel cs x h hk=>by
 obtain⟨hl,bs,hb,hs,hf⟩:=zb1 sfF B h hk;have h0:=hf 0 _ _ _ _ rfl (zbf Tryz.underlying3 B);have h1:=hf 1 _ _ _ _ rfl (zjv Tryz.underlying9 B);have h2:=hf 2 _ _ _ _ rfl (zir Tryz.underlying4 B);rw [co85]at hl;rw [co3]at h0;rw [co9]at h1;rw [co4]at h2
 match cs,hl with
 | [c0,c1,c2],_=>
 match bs,hb with
 | [b0,b1,b2],_=>
 simp only [List.getD_cons_zero,List.getD_cons_succ,QF,List.sum_nil]at h0 h1 h2 hs;obtain⟨n0,e0,_,l0⟩:=h0;obtain⟨s,e1,k1,l1⟩:=h1;obtain⟨n2,e2,_⟩:=h2;cases e0;cases e1;cases e2;exact⟨⟨n0,s,n2⟩,rfl,trivial,by simp only;omega,by simp only;omega⟩
theorem z09 (B:BulkL β):Rdr enc W β 87 λcs k=>∃x:ReportM,cs=zlx.f x∧True∧1≤(λ_:ReportM=>3) x∧(λ_:ReportM=>3) x≤k:=λfuel cs x h hk=>by
 obtain⟨hl,bs,hb,hs,hf⟩:=zb1 sfR B h hk;have h0:=hf 0 _ _ _ _ rfl (zbf Tryz.underlying3 B);have h1:=hf 1 _ _ _ _ rfl (zir Tryz.underlying4 B);have h2:=hf 2 _ _ _ _ rfl (zir Tryz.underlying4 B);have h3:=hf 3 _ _ _ _ rfl (zbf Tryz.underlying3 B);rw [co87]at hl;rw [co3]at h0 h3;rw [co4]at h1 h2
 match cs,hl with
 | [c0,c1,c2,c3],_=>
 match bs,hb with
 | [b0,b1,b2,b3],_=>
 simp only [List.getD_cons_zero,List.getD_cons_succ,QF,List.sum_nil]at h0 h1 h2 h3 hs;obtain⟨n0,e0,_,l0⟩:=h0;obtain⟨n1,e1,_⟩:=h1;obtain⟨n2,e2,_⟩:=h2;obtain⟨n3,e3,_⟩:=h3;cases e0;cases e1;cases e2;cases e3;exact⟨⟨n0,n1,n2,n3⟩,rfl,trivial,by simp only;omega,by simp only;omega⟩
theorem z1b (B:BulkL β):Rdr enc W β 3 λcs k=>∃x:Int,cs=zah.f x∧True∧1≤(λ_:Int=>1) x∧(λ_:Int=>1) x≤k:=λfuel cs x h hk=>by
 obtain⟨n,e,_,l⟩:=zbf (enc:=enc) (W:=W) Tryz.underlying3 B fuel cs x h hk;exact⟨n,e,trivial,JG _,l⟩
theorem zuo (B:BulkL β):Rdr enc W β 73 λcs k=>∃x:RoV,cs=encRo.f x∧x.Ok (wA W)∧1≤(λx:RoV=>rBulk x.m+zax x.l2) x∧(λx:RoV=>rBulk x.m+zax x.l2) x≤k:=λfuel cs x h hk=>by
 obtain⟨hl,bs,hb,hs,hf⟩:=zb1 sfQ B h hk;have h0:=hf 0 _ _ _ _ rfl (zbf Tryz.underlying2 B);have h1:=hf 1 _ _ _ _ rfl (zc3 (en:=zah) Tryz.underlying34 co3 B (z1b B));have h2:=hf 2 _ _ _ _ rfl (zc3 (en:=zkk) Tryz.underlying70 co85 B (z1a B));have h3:=hf 3 _ _ _ _ rfl (zc3 (en:=zlx) Tryz.underlying71 co87 B (z09 B));have h4:=hf 4 _ _ _ _ rfl (zbf Tryz.underlying2 B);have h5:=hf 5 _ _ _ _ rfl (zir Tryz.underlying4 B);rw [co73]at hl;rw [co2]at h0 h4;rw [co34]at h1;rw [co70]at h2;rw [co71]at h3;rw [co4]at h5
 match cs,hl with
 | [c0,c1,c2,c3,c4,c5],_=>
 match bs,hb with
 | [b0,b1,b2,b3,b4,b5],_=>
 simp only [List.getD_cons_zero,List.getD_cons_succ,QF,List.sum_nil]at h0 h1 h2 h3 h4 h5 hs;obtain⟨n0,e0,m0,l0⟩:=h0;obtain⟨a1,n1,c1,L1,e1,r1,o1,w1,v1⟩:=h1;obtain⟨a2,n2,c2,L2,e2,r2,o2,w2,v2⟩:=h2;obtain⟨a3,n3,c3,L3,e3,r3,o3,w3,v3⟩:=h3;obtain⟨n4,e4,m4,l4⟩:=h4;obtain⟨n5,e5,l5⟩:=h5;cases e0;cases e1;cases e2;cases e3;cases e4;cases e5;rw [zlr]at w1 w3;have hof:zax L2≤(L2.map λx:OfferM=>x.bytes.size+1).sum:=ze5 L2 λy _=>by omega
 have g1:=r1.len;have g2:=r2.len;have g3:=r3.len;refine⟨⟨n0,a1,n1,c1,a2,n2,c2,a3,n3,c3,n4,n5,L1,L2,L3⟩,rfl,⟨⟨r1⟩,⟨r2⟩,⟨r3⟩,⟨m0,m4⟩,?_⟩,?_,?_⟩
 ·simp only;rw [zlr]at v1 v3;omega
 ·simp only [rBulk];omega
 ·simp only [rBulk,RoV.m];omega
theorem zun (B:BulkL β):Rdr enc W β 23 λcs k=>∃su:Setup,cs=suC su:=λfuel cs x h hk=>by
 obtain⟨hl,bs,hb,hs,hf⟩:=zb1 sfS B h hk;have h0:=hf 0 _ _ _ _ rfl (zbf Tryz.underlying3 B);have h1:=hf 1 _ _ _ _ rfl (zbf Tryz.underlying3 B);have h2:=hf 2 _ _ _ _ rfl (zbf Tryz.underlying3 B);have h3:=hf 3 _ _ _ _ rfl (zbf Tryz.underlying3 B);have h4:=hf 4 _ _ _ _ rfl (zbf Tryz.underlying3 B);have h5:=hf 5 _ _ _ _ rfl (zbf Tryz.underlying3 B);rw [co23]at hl;rw [co3]at h0 h1 h2 h3 h4 h5
 match cs,hl with
 | [c0,c1,c2,c3,c4,c5],_=>
 obtain⟨n0,e0,_⟩:=h0;obtain⟨n1,e1,_⟩:=h1;obtain⟨n2,e2,_⟩:=h2;obtain⟨n3,e3,_⟩:=h3;obtain⟨n4,e4,_⟩:=h4;obtain⟨n5,e5,_⟩:=h5;cases e0;cases e1;cases e2;cases e3;cases e4;cases e5;exact⟨⟨n0,n1,n2,n3,n4,n5⟩,rfl⟩
structure StageR (A:Chunk) (cs:List Value):Prop where
 h:∃su src sa sn sc ra rn rc ps0 R,cs=zfy su src sa sn sc ra rn rc∧PrsR [A] sa sn sc ps0∧(∀p∈ps0,p.Fit)∧sn≤1000000000∧
  Vie 73 6 ra rn rc encRo R A∧(∀y∈R,y.Ok A)∧rn≤1000000000∧roSum R≤1000000000000∧
  ((R.map RoV.m).map rBulk).sum≤1000000000∧((R.map RoV.m).map λr=>r.reports.length).sum≤4000000
theorem zum (B:BulkL β):Rdr enc W β 27 λcs _=>StageR (wA W) cs:=λfuel cs x h hk=>by
 obtain⟨hl,bs,hb,hs,hf⟩:=zb1 sfT B h hk;have h0:=hf 0 _ _ _ _ rfl (zun B);have h1:=hf 1 _ _ _ _ rfl (zjv Tryz.underlying9 B);have h2:=hf 2 _ _ _ _ rfl (zc3 (en:=encPr) Tryz.underlying24 co45 B (zxx B));have h3:=hf 3 _ _ _ _ rfl (zc3 (en:=encRo) Tryz.underlying25 co73 B (zuo B));rw [co27]at hl;rw [co23]at h0;rw [co9]at h1;rw [co24]at h2;rw [co25]at h3
 match cs,hl with
 | [d0,d1,d2,d3,d4,d5,d6,d7,d8],_=>
 match bs,hb with
 | [b0,b1,b2,b3],_=>
 simp only [List.getD_cons_zero,List.getD_cons_succ,QF,List.sum_nil]at h0 h1 h2 h3 hs;obtain⟨su,e0⟩:=h0;obtain⟨src,e1,_⟩:=h1;obtain⟨a2,n2,c2,L2,e2,r2,o2,w2,v2⟩:=h2;obtain⟨a3,n3,c3,L3,e3,r3,o3,w3,v3⟩:=h3;cases e0;cases e1;cases e2;cases e3;have g1:((L3.map RoV.m).map rBulk).sum≤(L3.map λx:RoV=>rBulk x.m+zax x.l2).sum:=by
  rw [Qc];exact ze5 L3 λy _=>by simp only [Function.comp];omega
 have g2:roSum L3≤(L3.map λx:RoV=>rBulk x.m+zax x.l2).sum:=ze5 L3 λy _=>by omega
 have g3:((L3.map RoV.m).map λr=>r.reports.length).sum≤(L3.map λx:RoV=>rBulk x.m+zax x.l2).sum:=by
  rw [Qc];exact ze5 L3 λy _=>by simp only [Function.comp,rBulk];omega
 refine⟨su,src,a2,n2,c2,a3,n3,c3,L2.map Prod.fst,L3,rfl,⟨L2,r2,rfl,λy hy=>(o2 y hy).1⟩,λp hp=> ?_,by omega,⟨r3⟩,o3,by omega,by omega,by omega,by omega⟩;obtain⟨y,hy,rfl⟩:=Jt.1 hp;exact(o2 y hy).2
end
end Go.Proofs.YtbjlfobjngogkaaGreatDoor
